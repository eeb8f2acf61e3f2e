-- Made by a program of this session out of the translation. Lean checks it.
import Derived.Test.YtankmdbbgepmbaaPFnChosenx1
namespace Go.Proofs.Ytankmdbbgepmbaa.PFnChosen
open Go.RowKit Go.Proofs.YtankmdbbgepmbaaW.PrintWords Go.Proofs.YtankmdbbgepmbaaW.PrintLast Go.Proofs.YtankmdbbgepmbaaW.PrintMore
attribute [local go_sem] max2_int min2_int max_two min_two max_three min_three max_four min_four   -- for this text's walks alone
set_option linter.unusedVariables false
set_option linter.unusedSimpArgs false

/-! ### spec_l1Near: function 99 -/
def spec_l1Near.l0 : Nat → Bool → List Int → List Int → Int → Int → Int → List Int → Option (List Int)
 | 0, _, _, _, _, _, _, _ => none
 | k + 1, x2, x7, x8, x9, x129000, x129001, x129002 => if x9 < (x8.length : Int) then (if 0 ≤ x9 then (if 0 ≤ (rd x8 x9) then (if (rd x8 x9) < (x129002.length : Int) then (if (rd x129002 (rd x8 x9)) = 0 then (spec_l1Near.l0 k x2 x7 x8 (wrap64 (x9 + 1)) x129000 x129001 x129002) else (if x2 = true then (if ((rd x129002 (rd x8 x9)) = 2) then (spec_l1Near.l0 k x2 x7 x8 (wrap64 (x9 + 1)) x129000 x129001 x129002) else (if x7.length < 17592186044416 then (spec_l1Near.l0 k x2 (x7 ++ [rd x8 x9]) x8 (wrap64 (x9 + 1)) x129000 x129001 x129002) else (none))) else (if x7.length < 17592186044416 then (spec_l1Near.l0 k x2 (x7 ++ [rd x8 x9]) x8 (wrap64 (x9 + 1)) x129000 x129001 x129002) else (none)))) else (none)) else (none)) else (none)) else (some x7)
def spec_l1Near.f (k : Nat) (a0_0 : Int) (a0_1 : Int) (l0_2 : List Int) (a1 : Int) (a2 : Bool) : Option (List Int) := (spec_l1Beside.f k a0_0 a0_1 l0_2 a1).bind fun t132 => (spec_l1Near.l0 k a2 (([] : List Int)) t132 0 a0_0 a0_1 l0_2)
theorem spec_l1Near.mono_l : ∀ k, (∀ y0 y1 y2 y3 y4 y5 y6, LeO (spec_l1Near.l0 k y0 y1 y2 y3 y4 y5 y6) (spec_l1Near.l0 (k + 1) y0 y1 y2 y3 y4 y5 y6))
 | 0 => fun _ _ _ _ _ _ _ r h => by simp [spec_l1Near.l0] at h
 | k + 1 => by
  have ih0 := spec_l1Near.mono_l k
  {
  intro y0 y1 y2 y3 y4 y5 y6
  unfold spec_l1Near.l0
  have j0 := @spec_l1Beside.mono
  exact qL
  }
theorem spec_l1Near.mono : ∀ a0 a1 a2 a3 a4 k, LeO (spec_l1Near.f k a0 a1 a2 a3 a4) (spec_l1Near.f (k + 1) a0 a1 a2 a3 a4) := by
 intro a0 a1 a2 a3 a4 k
 have ih0 := spec_l1Near.mono_l k
 unfold spec_l1Near.f
 have j0 := @spec_l1Beside.mono
 exact qL
set_option maxHeartbeats 8000000 in
set_option maxRecDepth 100000 in
theorem spec_l1Near.calls (k : Nat) (a0_0 : Int) (a0_1 : Int) (A0_2 : Option Addr) (c0_2 : Nat) (l0_2 : List Int) (a1 : Int) (a2 : Bool) (r : List Int) (w : World) (hr0_2 : Kd.C (Kd.int .i64) w A0_2 l0_2.length l0_2) (hc0_2 : l0_2.length ≤ c0_2) (h : spec_l1Near.f k a0_0 a0_1 l0_2 a1 a2 = some r) :
  Calls Try.prog 99 #[.agg #[.int .i64 a0_0, .int .i64 a0_1, .slice A0_2 l0_2.length c0_2], .int .i64 a1, .bool a2] w fun e w' => ∃ v0_ : Value, e = .returned (v0_) ∧ Kd.R (Kd.int .i64) 3 w' w.heap.size (fun _ => True) v0_ r ∧ Below w.heap.size w w' := by
 have hu43 := Try.underlying43
 have HR0_2 := aM hr0_2
 have HC0_2 := aM hc0_2
 clear hr0_2 hc0_2
 have HB := aM (Below.refl w.heap.size w)
 have H : ((spec_l1Beside.f k a0_0 a0_1 l0_2 a1).bind fun t132 => (spec_l1Near.l0 k a2 (([] : List Int)) t132 0 a0_0 a0_1 l0_2)) = some r := h
 clear h
 obtain ⟨y129, hy129⟩ : ∃ y_ : List Int, y_ = (([] : List Int)) := ⟨_, rfl⟩
 replace H : ((spec_l1Beside.f k a0_0 a0_1 l0_2 a1).bind fun t132 => (spec_l1Near.l0 k a2 y129 t132 0 a0_0 a0_1 l0_2)) = some r := by first | (rw [hy129]; with_reducible exact H) | (have H2_ := (Option.bind_some _ _).symm.trans H; rw [hy129]; with_reducible exact H2_) | (have H2_ := (Option.bind_some _ _).symm.trans H; with_reducible exact H2_) | with_reducible exact H | (rw [hy129]; exact H) | exact H
 have Ny129 := aM hy129
 clear hy129
 replace H := Option.bind_eq_some_iff.mp H
 obtain ⟨t132, A40, H⟩ := H
 replace H : (spec_l1Near.l0 k a2 y129 t132 0 a0_0 a0_1 l0_2) = some r := H
 have A4 := aM A40
 clear A40
 have H' := aM H
 clear H
 go_enter Try.func99, Try.ntmps99
 go_wp2_with (first | ((with_reducible refine gate_dst (N := 3) rfl ?_); refine bx_ 3 #[.int .i64 a0_0, .int .i64 a0_1, .slice A0_2 l0_2.length c0_2] 43 ?_; intro gb128 hg w5 hbox hb; have BK128 := aM (hbox); have GW128 := aM (bz_ w hg qz1); have GE128 := GW128; replace HB := bS_ hb; clear hb hbox hg) | ((with_reducible refine gate_dst (N := 11) rfl ?_); refine Kd.R_lit (Kd.int .i64) _ 3 ?hg (N := 11) ?hd (xs := ([] : List Int)) (inner := []) (ok := fun _ => True) (okp := fun _ => True) ?hr ?hp (fun _ hk => hk) trivial (Below.refl _ _) (Nat.le_refl _) (by simp) ?_; (case hd => rfl); (case hg => rfl); (case hr => exact qz10); (case hp => exact qz30); intro v130 w6 ho7 hb hg_ hnew_; clear hg_ hnew_; (first | rw [← Ny129.out] at ho7 | (simp only [Int.reduceToNat] at ho7; rw [← Ny129.out] at ho7)); have HO131 := aM (Kd.R_lower ho7 (below_size qz1)); replace BK128 := bB_ BK128 hb; replace HB := bS_ hb; clear hb ho7; obtain ⟨hcz8_0, hcz8_1, hcz8_2, hfz8_0, hfz8_1, hfz8_2⟩ := b6_ BK128.out) | (go_at_call 123; (with_reducible refine (spec_l1Beside.calls k a0_0 a0_1 _ _ l0_2 a1 t132 _ ?side1 ?side2 A4.out).mono ?_); (case side1 => exact qz6); (case side2 => exact HC0_2.out); rintro e w9 ⟨v133, rfl, ho0, hb⟩; have HO134 := aM (Kd.R_lower (Kd.R_new' ho0 (Kd.R_lt (rr_ HO131.out))) (below_size qz1)); replace HO131 := aM (Kd.R_elder' (rr_ HO131.out) (Kd.R_base ho0) hb); replace BK128 := bB_ BK128 hb; replace HB := bS_ hb; (try clear hb ho0)))
 repeat (go_quiet (first | ((with_reducible refine gate_dst (N := 3) rfl ?_); refine bx_ 3 #[.int .i64 a0_0, .int .i64 a0_1, .slice A0_2 l0_2.length c0_2] 43 ?_; intro gb128 hg w5 hbox hb; have BK128 := aM (hbox); have GW128 := aM (bz_ w hg qz1); have GE128 := GW128; replace HB := bS_ hb; clear hb hbox hg) | ((with_reducible refine gate_dst (N := 11) rfl ?_); refine Kd.R_lit (Kd.int .i64) _ 3 ?hg (N := 11) ?hd (xs := ([] : List Int)) (inner := []) (ok := fun _ => True) (okp := fun _ => True) ?hr ?hp (fun _ hk => hk) trivial (Below.refl _ _) (Nat.le_refl _) (by simp) ?_; (case hd => rfl); (case hg => rfl); (case hr => exact qz10); (case hp => exact qz30); intro v130 w6 ho7 hb hg_ hnew_; clear hg_ hnew_; (first | rw [← Ny129.out] at ho7 | (simp only [Int.reduceToNat] at ho7; rw [← Ny129.out] at ho7)); have HO131 := aM (Kd.R_lower ho7 (below_size qz1)); replace BK128 := bB_ BK128 hb; replace HB := bS_ hb; clear hb ho7; obtain ⟨hcz8_0, hcz8_1, hcz8_2, hfz8_0, hfz8_1, hfz8_2⟩ := b6_ BK128.out) | (go_at_call 123; (with_reducible refine (spec_l1Beside.calls k a0_0 a0_1 _ _ l0_2 a1 t132 _ ?side1 ?side2 A4.out).mono ?_); (case side1 => exact qz6); (case side2 => exact HC0_2.out); rintro e w9 ⟨v133, rfl, ho0, hb⟩; have HO134 := aM (Kd.R_lower (Kd.R_new' ho0 (Kd.R_lt (rr_ HO131.out))) (below_size qz1)); replace HO131 := aM (Kd.R_elder' (rr_ HO131.out) (Kd.R_base ho0) hb); replace BK128 := bB_ BK128 hb; replace HB := bS_ hb; (try clear hb ho0))); try go_wp2_with (first | ((with_reducible refine gate_dst (N := 3) rfl ?_); refine bx_ 3 #[.int .i64 a0_0, .int .i64 a0_1, .slice A0_2 l0_2.length c0_2] 43 ?_; intro gb128 hg w5 hbox hb; have BK128 := aM (hbox); have GW128 := aM (bz_ w hg qz1); have GE128 := GW128; replace HB := bS_ hb; clear hb hbox hg) | ((with_reducible refine gate_dst (N := 11) rfl ?_); refine Kd.R_lit (Kd.int .i64) _ 3 ?hg (N := 11) ?hd (xs := ([] : List Int)) (inner := []) (ok := fun _ => True) (okp := fun _ => True) ?hr ?hp (fun _ hk => hk) trivial (Below.refl _ _) (Nat.le_refl _) (by simp) ?_; (case hd => rfl); (case hg => rfl); (case hr => exact qz10); (case hp => exact qz30); intro v130 w6 ho7 hb hg_ hnew_; clear hg_ hnew_; (first | rw [← Ny129.out] at ho7 | (simp only [Int.reduceToNat] at ho7; rw [← Ny129.out] at ho7)); have HO131 := aM (Kd.R_lower ho7 (below_size qz1)); replace BK128 := bB_ BK128 hb; replace HB := bS_ hb; clear hb ho7; obtain ⟨hcz8_0, hcz8_1, hcz8_2, hfz8_0, hfz8_1, hfz8_2⟩ := b6_ BK128.out) | (go_at_call 123; (with_reducible refine (spec_l1Beside.calls k a0_0 a0_1 _ _ l0_2 a1 t132 _ ?side1 ?side2 A4.out).mono ?_); (case side1 => exact qz6); (case side2 => exact HC0_2.out); rintro e w9 ⟨v133, rfl, ho0, hb⟩; have HO134 := aM (Kd.R_lower (Kd.R_new' ho0 (Kd.R_lt (rr_ HO131.out))) (below_size qz1)); replace HO131 := aM (Kd.R_elder' (rr_ HO131.out) (Kd.R_base ho0) hb); replace BK128 := bB_ BK128 hb; replace HB := bS_ hb; (try clear hb ho0))))
 go_loopg [7, 9] k (fun kq v7 v9 w' => ∃ (x7_1 : List Int) (x9_1 : Int), v9 = .int .i64 x9_1 ∧ Aside0 (spec_l1Near.l0 kq a2 x7_1 t132 x9_1 a0_0 a0_1 l0_2 = some r) ∧ Aside0 (kq ≤ k) ∧ Aside0 (Kd.R (Kd.int .i64) 3 w' w.heap.size (fun k_ => some k_ ≠ (v133 : Value).ownBlock) v7 x7_1) ∧ Aside0 (Kd.R (Kd.int .i64) 3 w' w.heap.size (fun k_ => some k_ ≠ (v7 : Value).ownBlock) v133 t132) ∧ Aside0 (w'.heap[gb128]? = some (.cells #[.int .i64 a0_0, .int .i64 a0_1, (.slice A0_2 l0_2.length c0_2)] 43 (0, 0))) ∧ Aside0 (Below w.heap.size w w'))
 case atStart => exact ⟨(y129), (0), qz8, H', ⟨Nat.le_refl _⟩, ⟨by (with_reducible repeat (first | apply Kd.R_alloc | apply Kd.R_drewN | apply Kd.R_drew)); exact Kd.R_mono HO131.out (fun _ hk => hk.2)⟩, ⟨by (with_reducible repeat (first | apply Kd.R_alloc | apply Kd.R_drewN | apply Kd.R_drew)); exact Kd.R_mono HO134.out (fun _ hk => hk.2)⟩, ⟨bk_ BK128.out⟩, ⟨qz1⟩⟩
 case round =>
  clear H'
  try clear p2
  try clear c9
  try clear hcz8_0 hcz8_1 hcz8_2 hfz8_0 hfz8_1 hfz8_2
  obtain ⟨x7_1, x9_1, rfl, HA, HK1, HO_7, HO_8, BK128, HB⟩ := hrel
  cases gk with
  | zero => exact absurd HA.out (by simp [spec_l1Near.l0])
  | succ k1 =>
   have H := HA.out
   clear HA
   simp only [spec_l1Near.l0] at H
   by_cases c10 : x9_1 < (t132.length : Int)
   {
   rw [if_pos c10] at H
   have c10b0 := decide_eq_true c10
   clear c10
   by_cases c11 : 0 ≤ x9_1
   {
   rw [if_pos c11] at H
   have c11b0 := decide_eq_true c11
   clear c11
   by_cases c12 : 0 ≤ (rd t132 x9_1)
   {
   rw [if_pos c12] at H
   have c12b0 := decide_eq_true c12
   clear c12
   by_cases c13 : (rd t132 x9_1) < (l0_2.length : Int)
   {
   rw [if_pos c13] at H
   have c13b0 := decide_eq_true c13
   clear c13
   by_cases c14 : (rd l0_2 (rd t132 x9_1)) = 0
   {
   rw [if_pos c14] at H
   have c14b0 := beq_iff_eq.mpr c14
   have c14b1 := bne_eq_false_iff_eq.mpr c14
   clear c14
   have H' := aM H
   clear H
   obtain ⟨Ao15, co15, eo15⟩ := Kd.R_slice HO_8.out
   subst eo15
   obtain ⟨hcz16_0, hcz16_1, hcz16_2, hfz16_0, hfz16_1, hfz16_2⟩ := b6_ BK128.out
   have p135 : 0 ≤ (x9_1 : Int) := dt_
   have q135 : x9_1 < (t132.length : Int) := dt_
   obtain ⟨ad135, e135, hx135_0⟩ := Kd.at_int (Kd.R_reads' HO_8.out).2.2 x9_1 p135 q135
   cases e135
   replace p135 := eq_true p135
   replace q135 := eq_true q135
   have p136 : 0 ≤ ((rd t132 x9_1) : Int) := dt_
   have q136 : (rd t132 x9_1) < (l0_2.length : Int) := dt_
   obtain ⟨ad136, e136, hx136_0⟩ := Kd.at_int HR0_2.out (rd t132 x9_1) p136 q136
   cases e136
   replace hx136_0 := cB_ hx136_0
   replace p136 := eq_true p136
   replace q136 := eq_true q136
   go_wp2
   repeat (go_quiet (fail); try go_wp2)
   go_roundg k1
   case measure => have := HK1.out; omega
   case rel => exact ⟨(x7_1), (wrap64 (x9_1 + 1)), qz8, H', ⟨by have := HK1.out; omega⟩, ⟨rm_ HO_7.out⟩, ⟨rm_ HO_8.out⟩, ⟨bk_ BK128.out⟩, ⟨qz1⟩⟩
   }
   {
   rw [if_neg c14] at H
   have c14b0 := beq_eq_false_iff_ne.mpr c14
   have c14b1 := bne_iff_ne.mpr c14
   by_cases c17 : a2 = true
   {
   subst c17
   rw [if_pos rfl] at H
   by_cases c18 : ((rd l0_2 (rd t132 x9_1)) = 2)
   {
   rw [if_pos c18] at H
   have c18b0 := beq_iff_eq.mpr c18
   have c18b1 := bne_eq_false_iff_eq.mpr c18
   clear c18
   have H' := aM H
   clear H
   obtain ⟨Ao19, co19, eo19⟩ := Kd.R_slice HO_8.out
   subst eo19
   obtain ⟨hcz20_0, hcz20_1, hcz20_2, hfz20_0, hfz20_1, hfz20_2⟩ := b6_ BK128.out
   have p135 : 0 ≤ (x9_1 : Int) := dt_
   have q135 : x9_1 < (t132.length : Int) := dt_
   obtain ⟨ad135, e135, hx135_0⟩ := Kd.at_int (Kd.R_reads' HO_8.out).2.2 x9_1 p135 q135
   cases e135
   replace p135 := eq_true p135
   replace q135 := eq_true q135
   have p136 : 0 ≤ ((rd t132 x9_1) : Int) := dt_
   have q136 : (rd t132 x9_1) < (l0_2.length : Int) := dt_
   obtain ⟨ad136, e136, hx136_0⟩ := Kd.at_int HR0_2.out (rd t132 x9_1) p136 q136
   cases e136
   replace hx136_0 := cB_ hx136_0
   replace p136 := eq_true p136
   replace q136 := eq_true q136
   go_wp2
   repeat (go_quiet (fail); try go_wp2)
   go_roundg k1
   case measure => have := HK1.out; omega
   case rel => exact ⟨(x7_1), (wrap64 (x9_1 + 1)), qz8, H', ⟨by have := HK1.out; omega⟩, ⟨rm_ HO_7.out⟩, ⟨rm_ HO_8.out⟩, ⟨bk_ BK128.out⟩, ⟨qz1⟩⟩
   }
   {
   rw [if_neg c18] at H
   have c18b0 := beq_eq_false_iff_ne.mpr c18
   have c18b1 := bne_iff_ne.mpr c18
   by_cases c21 : x7_1.length < 17592186044416
   {
   rw [if_pos c21] at H
   have LMc21 := aM c21
   clear c21
   obtain ⟨y138, hy138⟩ : ∃ y_ : List Int, y_ = (x7_1 ++ [rd t132 x9_1]) := ⟨_, rfl⟩
   replace H : (spec_l1Near.l0 k1 true y138 t132 (wrap64 (x9_1 + 1)) a0_0 a0_1 l0_2) = some r := by first | (rw [hy138]; with_reducible exact H) | (have H2_ := (Option.bind_some _ _).symm.trans H; rw [hy138]; with_reducible exact H2_) | (have H2_ := (Option.bind_some _ _).symm.trans H; with_reducible exact H2_) | with_reducible exact H | (rw [hy138]; exact H) | exact H
   have Ny138 := aM hy138
   clear hy138
   have H' := aM H
   clear H
   obtain ⟨Ao22, co22, eo22⟩ := Kd.R_slice HO_8.out
   subst eo22
   obtain ⟨hcz23_0, hcz23_1, hcz23_2, hfz23_0, hfz23_1, hfz23_2⟩ := b6_ BK128.out
   have p135 : 0 ≤ (x9_1 : Int) := dt_
   have q135 : x9_1 < (t132.length : Int) := dt_
   obtain ⟨ad135, e135, hx135_0⟩ := Kd.at_int (Kd.R_reads' HO_8.out).2.2 x9_1 p135 q135
   cases e135
   replace p135 := eq_true p135
   replace q135 := eq_true q135
   have p136 : 0 ≤ ((rd t132 x9_1) : Int) := dt_
   have q136 : (rd t132 x9_1) < (l0_2.length : Int) := dt_
   obtain ⟨ad136, e136, hx136_0⟩ := Kd.at_int HR0_2.out (rd t132 x9_1) p136 q136
   cases e136
   replace hx136_0 := cB_ hx136_0
   replace p136 := eq_true p136
   replace q136 := eq_true q136
   have p137 : 0 ≤ (x9_1 : Int) := dt_
   have q137 : x9_1 < (t132.length : Int) := dt_
   obtain ⟨ad137, e137, hx137_0⟩ := Kd.at_int (Kd.R_reads' HO_8.out).2.2 x9_1 p137 q137
   obtain rfl : ad135 = ad137 := (by injection e137)
   replace p137 := eq_true p137
   replace q137 := eq_true q137
   go_wp2_with (first | ((with_reducible refine gate_builtin (b := .append) (xs := #[.tmp 39, .tmp 44]) rfl ?_); at_builtin; refine Kd.R_append (Kd.int .i64) (w0 := w) w.heap.size rfl (.tmp 39) (.tmp 44) 24 3 (.int .i64 0) 8 rfl Try.underlying24 info3 rfl (by decide) (by omega) u7 x7_1 (rd t132 x9_1) [.int .i64 (rd t132 x9_1)] (fun k_ => some k_ ≠ (.slice (some ad135) t132.length co22 : Value).ownBlock) (fun _ => False) rfl rfl ?aP (fun _ hk => hk.elim) ?aF ?aO ?aB ?aS ?aL ?_; (case aP => exact rfl); (case aB => exact qz1); (case aF => exact qz22); (case aO => exact (rr_ HO_7.out)); (case aS => exact qz32); (case aL => have := LMc21.out; omega); intro v139 w24 ho hb hg hat; rw [← Ny138.out] at ho; replace HO_8 := aM (Kd.R_after (ok := (fun _ => True)) qz12 hg hat); replace BK128 := aM (blk_grown (bk_ BK128.out) hg (Kd.R_ne HO_7.out BK128.out (by decide))); replace HB := aM (hb); have HO140 := aM (ho); clear HO_7; clear ho hb hg hat))
   repeat (go_quiet (first | ((with_reducible refine gate_builtin (b := .append) (xs := #[.tmp 39, .tmp 44]) rfl ?_); at_builtin; refine Kd.R_append (Kd.int .i64) (w0 := w) w.heap.size rfl (.tmp 39) (.tmp 44) 24 3 (.int .i64 0) 8 rfl Try.underlying24 info3 rfl (by decide) (by omega) u7 x7_1 (rd t132 x9_1) [.int .i64 (rd t132 x9_1)] (fun k_ => some k_ ≠ (.slice (some ad135) t132.length co22 : Value).ownBlock) (fun _ => False) rfl rfl ?aP (fun _ hk => hk.elim) ?aF ?aO ?aB ?aS ?aL ?_; (case aP => exact rfl); (case aB => exact qz1); (case aF => exact qz22); (case aO => exact (rr_ HO_7.out)); (case aS => exact qz32); (case aL => have := LMc21.out; omega); intro v139 w24 ho hb hg hat; rw [← Ny138.out] at ho; replace HO_8 := aM (Kd.R_after (ok := (fun _ => True)) qz12 hg hat); replace BK128 := aM (blk_grown (bk_ BK128.out) hg (Kd.R_ne HO_7.out BK128.out (by decide))); replace HB := aM (hb); have HO140 := aM (ho); clear HO_7; clear ho hb hg hat)); try go_wp2_with (first | ((with_reducible refine gate_builtin (b := .append) (xs := #[.tmp 39, .tmp 44]) rfl ?_); at_builtin; refine Kd.R_append (Kd.int .i64) (w0 := w) w.heap.size rfl (.tmp 39) (.tmp 44) 24 3 (.int .i64 0) 8 rfl Try.underlying24 info3 rfl (by decide) (by omega) u7 x7_1 (rd t132 x9_1) [.int .i64 (rd t132 x9_1)] (fun k_ => some k_ ≠ (.slice (some ad135) t132.length co22 : Value).ownBlock) (fun _ => False) rfl rfl ?aP (fun _ hk => hk.elim) ?aF ?aO ?aB ?aS ?aL ?_; (case aP => exact rfl); (case aB => exact qz1); (case aF => exact qz22); (case aO => exact (rr_ HO_7.out)); (case aS => exact qz32); (case aL => have := LMc21.out; omega); intro v139 w24 ho hb hg hat; rw [← Ny138.out] at ho; replace HO_8 := aM (Kd.R_after (ok := (fun _ => True)) qz12 hg hat); replace BK128 := aM (blk_grown (bk_ BK128.out) hg (Kd.R_ne HO_7.out BK128.out (by decide))); replace HB := aM (hb); have HO140 := aM (ho); clear HO_7; clear ho hb hg hat)))
   go_roundg k1
   case measure => have := HK1.out; omega
   case rel => exact ⟨(y138), (wrap64 (x9_1 + 1)), qz8, H', ⟨by have := HK1.out; omega⟩, ⟨rm_ HO140.out⟩, ⟨by (with_reducible repeat (first | apply Kd.R_alloc | apply Kd.R_drewN | apply Kd.R_drew)); exact Kd.R_mono HO_8.out (fun _ hk => hk.2)⟩, ⟨bk_ BK128.out⟩, ⟨qz1⟩⟩
   }
   {
   exact an_ c21 H
   }
   }
   }
   {
   replace c17 := Bool.eq_false_iff.mpr c17
   subst c17
   rw [if_neg (show ¬ (false = true) by decide)] at H
   by_cases c25 : x7_1.length < 17592186044416
   {
   rw [if_pos c25] at H
   have LMc25 := aM c25
   clear c25
   obtain ⟨y142, hy142⟩ : ∃ y_ : List Int, y_ = (x7_1 ++ [rd t132 x9_1]) := ⟨_, rfl⟩
   replace H : (spec_l1Near.l0 k1 false y142 t132 (wrap64 (x9_1 + 1)) a0_0 a0_1 l0_2) = some r := by first | (rw [hy142]; with_reducible exact H) | (have H2_ := (Option.bind_some _ _).symm.trans H; rw [hy142]; with_reducible exact H2_) | (have H2_ := (Option.bind_some _ _).symm.trans H; with_reducible exact H2_) | with_reducible exact H | (rw [hy142]; exact H) | exact H
   have Ny142 := aM hy142
   clear hy142
   have H' := aM H
   clear H
   obtain ⟨Ao26, co26, eo26⟩ := Kd.R_slice HO_8.out
   subst eo26
   obtain ⟨hcz27_0, hcz27_1, hcz27_2, hfz27_0, hfz27_1, hfz27_2⟩ := b6_ BK128.out
   have p135 : 0 ≤ (x9_1 : Int) := dt_
   have q135 : x9_1 < (t132.length : Int) := dt_
   obtain ⟨ad135, e135, hx135_0⟩ := Kd.at_int (Kd.R_reads' HO_8.out).2.2 x9_1 p135 q135
   cases e135
   replace p135 := eq_true p135
   replace q135 := eq_true q135
   have p136 : 0 ≤ ((rd t132 x9_1) : Int) := dt_
   have q136 : (rd t132 x9_1) < (l0_2.length : Int) := dt_
   obtain ⟨ad136, e136, hx136_0⟩ := Kd.at_int HR0_2.out (rd t132 x9_1) p136 q136
   cases e136
   replace hx136_0 := cB_ hx136_0
   replace p136 := eq_true p136
   replace q136 := eq_true q136
   have p141 : 0 ≤ (x9_1 : Int) := dt_
   have q141 : x9_1 < (t132.length : Int) := dt_
   obtain ⟨ad141, e141, hx141_0⟩ := Kd.at_int (Kd.R_reads' HO_8.out).2.2 x9_1 p141 q141
   obtain rfl : ad135 = ad141 := (by injection e141)
   replace p141 := eq_true p141
   replace q141 := eq_true q141
   go_wp2_with (first | ((with_reducible refine gate_builtin (b := .append) (xs := #[.tmp 39, .tmp 44]) rfl ?_); at_builtin; refine Kd.R_append (Kd.int .i64) (w0 := w) w.heap.size rfl (.tmp 39) (.tmp 44) 24 3 (.int .i64 0) 8 rfl Try.underlying24 info3 rfl (by decide) (by omega) u7 x7_1 (rd t132 x9_1) [.int .i64 (rd t132 x9_1)] (fun k_ => some k_ ≠ (.slice (some ad135) t132.length co26 : Value).ownBlock) (fun _ => False) rfl rfl ?aP (fun _ hk => hk.elim) ?aF ?aO ?aB ?aS ?aL ?_; (case aP => exact rfl); (case aB => exact qz1); (case aF => exact qz22); (case aO => exact (rr_ HO_7.out)); (case aS => exact qz32); (case aL => have := LMc25.out; omega); intro v143 w28 ho hb hg hat; rw [← Ny142.out] at ho; replace HO_8 := aM (Kd.R_after (ok := (fun _ => True)) qz12 hg hat); replace BK128 := aM (blk_grown (bk_ BK128.out) hg (Kd.R_ne HO_7.out BK128.out (by decide))); replace HB := aM (hb); have HO144 := aM (ho); clear HO_7; clear ho hb hg hat))
   repeat (go_quiet (first | ((with_reducible refine gate_builtin (b := .append) (xs := #[.tmp 39, .tmp 44]) rfl ?_); at_builtin; refine Kd.R_append (Kd.int .i64) (w0 := w) w.heap.size rfl (.tmp 39) (.tmp 44) 24 3 (.int .i64 0) 8 rfl Try.underlying24 info3 rfl (by decide) (by omega) u7 x7_1 (rd t132 x9_1) [.int .i64 (rd t132 x9_1)] (fun k_ => some k_ ≠ (.slice (some ad135) t132.length co26 : Value).ownBlock) (fun _ => False) rfl rfl ?aP (fun _ hk => hk.elim) ?aF ?aO ?aB ?aS ?aL ?_; (case aP => exact rfl); (case aB => exact qz1); (case aF => exact qz22); (case aO => exact (rr_ HO_7.out)); (case aS => exact qz32); (case aL => have := LMc25.out; omega); intro v143 w28 ho hb hg hat; rw [← Ny142.out] at ho; replace HO_8 := aM (Kd.R_after (ok := (fun _ => True)) qz12 hg hat); replace BK128 := aM (blk_grown (bk_ BK128.out) hg (Kd.R_ne HO_7.out BK128.out (by decide))); replace HB := aM (hb); have HO144 := aM (ho); clear HO_7; clear ho hb hg hat)); try go_wp2_with (first | ((with_reducible refine gate_builtin (b := .append) (xs := #[.tmp 39, .tmp 44]) rfl ?_); at_builtin; refine Kd.R_append (Kd.int .i64) (w0 := w) w.heap.size rfl (.tmp 39) (.tmp 44) 24 3 (.int .i64 0) 8 rfl Try.underlying24 info3 rfl (by decide) (by omega) u7 x7_1 (rd t132 x9_1) [.int .i64 (rd t132 x9_1)] (fun k_ => some k_ ≠ (.slice (some ad135) t132.length co26 : Value).ownBlock) (fun _ => False) rfl rfl ?aP (fun _ hk => hk.elim) ?aF ?aO ?aB ?aS ?aL ?_; (case aP => exact rfl); (case aB => exact qz1); (case aF => exact qz22); (case aO => exact (rr_ HO_7.out)); (case aS => exact qz32); (case aL => have := LMc25.out; omega); intro v143 w28 ho hb hg hat; rw [← Ny142.out] at ho; replace HO_8 := aM (Kd.R_after (ok := (fun _ => True)) qz12 hg hat); replace BK128 := aM (blk_grown (bk_ BK128.out) hg (Kd.R_ne HO_7.out BK128.out (by decide))); replace HB := aM (hb); have HO144 := aM (ho); clear HO_7; clear ho hb hg hat)))
   go_roundg k1
   case measure => have := HK1.out; omega
   case rel => exact ⟨(y142), (wrap64 (x9_1 + 1)), qz8, H', ⟨by have := HK1.out; omega⟩, ⟨rm_ HO144.out⟩, ⟨by (with_reducible repeat (first | apply Kd.R_alloc | apply Kd.R_drewN | apply Kd.R_drew)); exact Kd.R_mono HO_8.out (fun _ hk => hk.2)⟩, ⟨bk_ BK128.out⟩, ⟨qz1⟩⟩
   }
   {
   exact an_ c25 H
   }
   }
   }
   }
   {
   exact an_ c13 H
   }
   }
   {
   exact an_ c12 H
   }
   }
   {
   exact an_ c11 H
   }
   }
   {
   rw [if_neg c10] at H
   have c10b0 := decide_eq_false c10
   clear c10
   obtain rfl := Option.some.inj H
   simp only [Option.some.injEq, Prod.mk.injEq] at H
   obtain ⟨rfl⟩ := H
   obtain ⟨Ao29, co29, eo29⟩ := Kd.R_slice HO_8.out
   subst eo29
   go_wp2
   repeat (go_quiet (fail); try go_wp2)
   go_ret
   exact ⟨_, qzw, by (with_reducible repeat (first | apply Kd.R_alloc | apply Kd.R_drewN | apply Kd.R_drew)); exact Kd.R_mono HO_7.out (fun _ hk => trivial), qz1⟩

   }
/-! ### spec_l7Rank: function 124 -/
def spec_l7Rank.f (a0_0 : Int) (a0_1 : Int) (a0_2 : Int) (a0_3 : Bool) (a0_4 : Int) (l1 : List Int) (a2 : Int) : Option (Int) := if a0_2 < 0 then (if a2 = a0_1 then (some 0) else (some 1)) else (if 0 ≤ a2 then (if a2 < (l1.length : Int) then (if (rd l1 a2) < 0 then (some 1000) else (some (rd l1 a2))) else (none)) else (none))
set_option maxHeartbeats 8000000 in
set_option maxRecDepth 100000 in
theorem spec_l7Rank.calls (a0_0 : Int) (a0_1 : Int) (a0_2 : Int) (a0_3 : Bool) (a0_4 : Int) (A1 : Option Addr) (c1 : Nat) (l1 : List Int) (a2 : Int) (r : Int) (w : World) (hr1 : Kd.C (Kd.int .i64) w A1 l1.length l1) (hc1 : l1.length ≤ c1) (h : spec_l7Rank.f a0_0 a0_1 a0_2 a0_3 a0_4 l1 a2 = some r) :
  Calls Try.prog 124 #[.agg #[.int .i64 a0_0, .int .i64 a0_1, .int .i64 a0_2, .bool a0_3, .int .i64 a0_4], .slice A1 l1.length c1, .int .i64 a2] w fun e w' => e = .returned (.int .i64 r) ∧ Below w.heap.size w w' := by
 have hu37 := Try.underlying37
 have HR1 := aM hr1
 have HC1 := aM hc1
 clear hr1 hc1
 have HB := aM (Below.refl w.heap.size w)
 have H : (if a0_2 < 0 then (if a2 = a0_1 then (some 0) else (some 1)) else (if 0 ≤ a2 then (if a2 < (l1.length : Int) then (if (rd l1 a2) < 0 then (some 1000) else (some (rd l1 a2))) else (none)) else (none))) = some r := h
 clear h
 by_cases c4 : a0_2 < 0
 {
 rw [if_pos c4] at H
 have c4b0 := decide_eq_true c4
 clear c4
 by_cases c5 : a2 = a0_1
 {
 rw [if_pos c5] at H
 have c5b0 := beq_iff_eq.mpr c5
 have c5b1 := bne_eq_false_iff_eq.mpr c5
 clear c5
 obtain rfl := Option.some.inj H
 simp only [Option.some.injEq, Prod.mk.injEq] at H
 obtain ⟨rfl⟩ := H
 go_enter Try.func124, Try.ntmps124
 go_wp2_with (first | ((with_reducible refine gate_dst (N := 3) rfl ?_); refine bx_ 3 #[.int .i64 a0_0, .int .i64 a0_1, .int .i64 a0_2, .bool a0_3, .int .i64 a0_4] 37 ?_; intro gb145 hg w6 hbox hb; have BK145 := aM (hbox); have GW145 := aM (bz_ w hg qz1); have GE145 := GW145; replace HB := bS_ hb; clear hb hbox hg; have hcz7_0 := bc0_ BK145.out; have hcz7_1 := bc1_ BK145.out; have hcz7_2 := bc2_ BK145.out; have hcz7_3 := bc3_ BK145.out; have hcz7_4 := bc4_ BK145.out; have hfz7_0 := blk_frozen BK145.out 0; have hfz7_1 := blk_frozen BK145.out 1; have hfz7_2 := blk_frozen BK145.out 2; have hfz7_3 := blk_frozen BK145.out 3; have hfz7_4 := blk_frozen BK145.out 4))
 go_ret
 exact ⟨qzw, qz1⟩
 }
 {
 rw [if_neg c5] at H
 have c5b0 := beq_eq_false_iff_ne.mpr c5
 have c5b1 := bne_iff_ne.mpr c5
 obtain rfl := Option.some.inj H
 simp only [Option.some.injEq, Prod.mk.injEq] at H
 obtain ⟨rfl⟩ := H
 go_enter Try.func124, Try.ntmps124
 go_wp2_with (first | ((with_reducible refine gate_dst (N := 3) rfl ?_); refine bx_ 3 #[.int .i64 a0_0, .int .i64 a0_1, .int .i64 a0_2, .bool a0_3, .int .i64 a0_4] 37 ?_; intro gb145 hg w8 hbox hb; have BK145 := aM (hbox); have GW145 := aM (bz_ w hg qz1); have GE145 := GW145; replace HB := bS_ hb; clear hb hbox hg; have hcz9_0 := bc0_ BK145.out; have hcz9_1 := bc1_ BK145.out; have hcz9_2 := bc2_ BK145.out; have hcz9_3 := bc3_ BK145.out; have hcz9_4 := bc4_ BK145.out; have hfz9_0 := blk_frozen BK145.out 0; have hfz9_1 := blk_frozen BK145.out 1; have hfz9_2 := blk_frozen BK145.out 2; have hfz9_3 := blk_frozen BK145.out 3; have hfz9_4 := blk_frozen BK145.out 4))
 go_ret
 exact ⟨qzw, qz1⟩
 }
 }
 {
 rw [if_neg c4] at H
 have c4b0 := decide_eq_false c4
 clear c4
 by_cases c10 : 0 ≤ a2
 {
 rw [if_pos c10] at H
 have c10b0 := decide_eq_true c10
 clear c10
 by_cases c11 : a2 < (l1.length : Int)
 {
 rw [if_pos c11] at H
 have c11b0 := decide_eq_true c11
 clear c11
 by_cases c12 : (rd l1 a2) < 0
 {
 rw [if_pos c12] at H
 have c12b0 := decide_eq_true c12
 clear c12
 obtain rfl := Option.some.inj H
 simp only [Option.some.injEq, Prod.mk.injEq] at H
 obtain ⟨rfl⟩ := H
 go_enter Try.func124, Try.ntmps124
 go_wp2_with (first | ((with_reducible refine gate_dst (N := 3) rfl ?_); refine bx_ 3 #[.int .i64 a0_0, .int .i64 a0_1, .int .i64 a0_2, .bool a0_3, .int .i64 a0_4] 37 ?_; intro gb145 hg w13 hbox hb; have BK145 := aM (hbox); have GW145 := aM (bz_ w hg qz1); have GE145 := GW145; replace HB := bS_ hb; clear hb hbox hg; have hcz14_0 := bc0_ BK145.out; have hcz14_1 := bc1_ BK145.out; have hcz14_2 := bc2_ BK145.out; have hcz14_3 := bc3_ BK145.out; have hcz14_4 := bc4_ BK145.out; have hfz14_0 := blk_frozen BK145.out 0; have hfz14_1 := blk_frozen BK145.out 1; have hfz14_2 := blk_frozen BK145.out 2; have hfz14_3 := blk_frozen BK145.out 3; have hfz14_4 := blk_frozen BK145.out 4; have p146 : 0 ≤ (a2 : Int) := dt_; have q146 : a2 < (l1.length : Int) := dt_; obtain ⟨ad146, e146, hx146_0⟩ := Kd.at_int HR1.out a2 p146 q146; cases e146; replace hx146_0 := cB_ hx146_0; replace p146 := eq_true p146; replace q146 := eq_true q146))
 go_ret
 exact ⟨qzw, qz1⟩
 }
 {
 rw [if_neg c12] at H
 have c12b0 := decide_eq_false c12
 clear c12
 obtain rfl := Option.some.inj H
 simp only [Option.some.injEq, Prod.mk.injEq] at H
 obtain ⟨rfl⟩ := H
 go_enter Try.func124, Try.ntmps124
 go_wp2_with (first | ((with_reducible refine gate_dst (N := 3) rfl ?_); refine bx_ 3 #[.int .i64 a0_0, .int .i64 a0_1, .int .i64 a0_2, .bool a0_3, .int .i64 a0_4] 37 ?_; intro gb145 hg w15 hbox hb; have BK145 := aM (hbox); have GW145 := aM (bz_ w hg qz1); have GE145 := GW145; replace HB := bS_ hb; clear hb hbox hg; have hcz16_0 := bc0_ BK145.out; have hcz16_1 := bc1_ BK145.out; have hcz16_2 := bc2_ BK145.out; have hcz16_3 := bc3_ BK145.out; have hcz16_4 := bc4_ BK145.out; have hfz16_0 := blk_frozen BK145.out 0; have hfz16_1 := blk_frozen BK145.out 1; have hfz16_2 := blk_frozen BK145.out 2; have hfz16_3 := blk_frozen BK145.out 3; have hfz16_4 := blk_frozen BK145.out 4; have p146 : 0 ≤ (a2 : Int) := dt_; have q146 : a2 < (l1.length : Int) := dt_; obtain ⟨ad146, e146, hx146_0⟩ := Kd.at_int HR1.out a2 p146 q146; cases e146; replace hx146_0 := cB_ hx146_0; replace p146 := eq_true p146; replace q146 := eq_true q146; have p147 : 0 ≤ (a2 : Int) := dt_; have q147 : a2 < (l1.length : Int) := dt_; obtain ⟨ad147, e147, hx147_0⟩ := Kd.at_int HR1.out a2 p147 q147; obtain rfl : ad146 = ad147 := (by injection e147); replace hx147_0 := cB_ hx147_0; replace p147 := eq_true p147; replace q147 := eq_true q147))
 go_ret
 exact ⟨qzw, qz1⟩
 }
 }
 {
 exact an_ c11 H
 }
 }
 {
 exact an_ c10 H

 }
 }
/-! ### spec_l7Before: function 100 -/
def spec_l7Before.f (a0_0 : Int) (a0_1 : Int) (a0_2 : Int) (a0_3 : Bool) (a0_4 : Int) (l1 : List Int) (a2 : Int) (a3 : Int) : Option (Bool) := (spec_l7Rank.f a0_0 a0_1 a0_2 a0_3 a0_4 l1 a2).bind fun t149 => ((spec_l7Rank.f a0_0 a0_1 a0_2 a0_3 a0_4 l1 a3).bind fun t150 => (if t149 = t150 then (if ((a2 == a0_1) != (a3 == a0_1)) = true then (some (a3 == a0_1)) else (some (decide (a2 < a3)))) else (some (decide (t149 < t150)))))
set_option maxHeartbeats 8000000 in
set_option maxRecDepth 100000 in
theorem spec_l7Before.calls (a0_0 : Int) (a0_1 : Int) (a0_2 : Int) (a0_3 : Bool) (a0_4 : Int) (A1 : Option Addr) (c1 : Nat) (l1 : List Int) (a2 : Int) (a3 : Int) (r : Bool) (w : World) (hr1 : Kd.C (Kd.int .i64) w A1 l1.length l1) (hc1 : l1.length ≤ c1) (h : spec_l7Before.f a0_0 a0_1 a0_2 a0_3 a0_4 l1 a2 a3 = some r) :
  Calls Try.prog 100 #[.agg #[.int .i64 a0_0, .int .i64 a0_1, .int .i64 a0_2, .bool a0_3, .int .i64 a0_4], .slice A1 l1.length c1, .int .i64 a2, .int .i64 a3] w fun e w' => e = .returned (.bool r) ∧ Below w.heap.size w w' := by
 have hu37 := Try.underlying37
 have HR1 := aM hr1
 have HC1 := aM hc1
 clear hr1 hc1
 have HB := aM (Below.refl w.heap.size w)
 have H : ((spec_l7Rank.f a0_0 a0_1 a0_2 a0_3 a0_4 l1 a2).bind fun t149 => ((spec_l7Rank.f a0_0 a0_1 a0_2 a0_3 a0_4 l1 a3).bind fun t150 => (if t149 = t150 then (if ((a2 == a0_1) != (a3 == a0_1)) = true then (some (a3 == a0_1)) else (some (decide (a2 < a3)))) else (some (decide (t149 < t150)))))) = some r := h
 clear h
 replace H := Option.bind_eq_some_iff.mp H
 obtain ⟨t149, A50, H⟩ := H
 replace H : ((spec_l7Rank.f a0_0 a0_1 a0_2 a0_3 a0_4 l1 a3).bind fun t150 => (if t149 = t150 then (if ((a2 == a0_1) != (a3 == a0_1)) = true then (some (a3 == a0_1)) else (some (decide (a2 < a3)))) else (some (decide (t149 < t150))))) = some r := H
 have A5 := aM A50
 clear A50
 replace H := Option.bind_eq_some_iff.mp H
 obtain ⟨t150, A60, H⟩ := H
 replace H : (if t149 = t150 then (if ((a2 == a0_1) != (a3 == a0_1)) = true then (some (a3 == a0_1)) else (some (decide (a2 < a3)))) else (some (decide (t149 < t150)))) = some r := H
 have A6 := aM A60
 clear A60
 by_cases c7 : t149 = t150
 {
 rw [if_pos c7] at H
 have c7b0 := beq_iff_eq.mpr c7
 have c7b1 := bne_eq_false_iff_eq.mpr c7
 clear c7
 by_cases c8 : ((a2 == a0_1) != (a3 == a0_1)) = true
 {
 rw [if_pos c8] at H
 have c8b0 : ((a2 == a0_1) != (a3 == a0_1)) = true := c8
 (try (have c8b1 : decide ((a2 == a0_1) = (a3 == a0_1)) = false := by simpa using c8))
 (try (have c8b2 : ((a2 == a0_1) == (a3 == a0_1)) = false := by simpa using c8))
 (try (have c8b3 : ¬ ((a2 == a0_1) = (a3 == a0_1)) := by simpa using c8))
 clear c8
 obtain rfl := Option.some.inj H
 simp only [Option.some.injEq, Prod.mk.injEq] at H
 obtain ⟨rfl⟩ := H
 go_enter Try.func100, Try.ntmps100
 go_wp2_with (first | ((with_reducible refine gate_dst (N := 4) rfl ?_); refine bx_ 4 #[.int .i64 a0_0, .int .i64 a0_1, .int .i64 a0_2, .bool a0_3, .int .i64 a0_4] 37 ?_; intro gb148 hg w9 hbox hb; have BK148 := aM (hbox); have GW148 := aM (bz_ w hg qz1); have GE148 := GW148; replace HB := bS_ hb; clear hb hbox hg; have hcz10_0 := bc0_ BK148.out; have hcz10_1 := bc1_ BK148.out; have hcz10_2 := bc2_ BK148.out; have hcz10_3 := bc3_ BK148.out; have hcz10_4 := bc4_ BK148.out; have hfz10_0 := blk_frozen BK148.out 0; have hfz10_1 := blk_frozen BK148.out 1; have hfz10_2 := blk_frozen BK148.out 2; have hfz10_3 := blk_frozen BK148.out 3; have hfz10_4 := blk_frozen BK148.out 4) | ((with_reducible refine gate_callee (f := 124) rfl ?_); refine goesL_ (some 14) rfl rfl Try.func124 (by kernel_rfl) rfl #[.agg #[.int .i64 a0_0, .int .i64 a0_1, .int .i64 a0_2, .bool a0_3, .int .i64 a0_4], .slice A1 l1.length c1, .int .i64 a2] rfl qz4 ?_; (with_reducible refine (spec_l7Rank.calls a0_0 a0_1 a0_2 a0_3 a0_4 _ _ l1 a2 t149 _ ?side1 ?side2 A5.out).mono ?_); (case side1 => exact qz17); (case side2 => exact HC1.out); rintro e w11 ⟨rfl, hb⟩; refine ⟨_, rfl, ?_⟩; replace BK148 := bB_ BK148 hb; replace HB := bS_ hb; (try clear hb); have hcz12_0 := bc0_ BK148.out; have hcz12_1 := bc1_ BK148.out; have hcz12_2 := bc2_ BK148.out; have hcz12_3 := bc3_ BK148.out; have hcz12_4 := bc4_ BK148.out; have hfz12_0 := blk_frozen BK148.out 0; have hfz12_1 := blk_frozen BK148.out 1; have hfz12_2 := blk_frozen BK148.out 2; have hfz12_3 := blk_frozen BK148.out 3; have hfz12_4 := blk_frozen BK148.out 4) | ((with_reducible refine gate_callee (f := 124) rfl ?_); refine goesL_ (some 18) rfl rfl Try.func124 (by kernel_rfl) rfl #[.agg #[.int .i64 a0_0, .int .i64 a0_1, .int .i64 a0_2, .bool a0_3, .int .i64 a0_4], .slice A1 l1.length c1, .int .i64 a3] rfl qz4 ?_; (with_reducible refine (spec_l7Rank.calls a0_0 a0_1 a0_2 a0_3 a0_4 _ _ l1 a3 t150 _ ?side1 ?side2 A6.out).mono ?_); (case side1 => exact qz17); (case side2 => exact HC1.out); rintro e w13 ⟨rfl, hb⟩; refine ⟨_, rfl, ?_⟩; replace BK148 := bB_ BK148 hb; replace HB := bS_ hb; (try clear hb); have hcz14_0 := bc0_ BK148.out; have hcz14_1 := bc1_ BK148.out; have hcz14_2 := bc2_ BK148.out; have hcz14_3 := bc3_ BK148.out; have hcz14_4 := bc4_ BK148.out; have hfz14_0 := blk_frozen BK148.out 0; have hfz14_1 := blk_frozen BK148.out 1; have hfz14_2 := blk_frozen BK148.out 2; have hfz14_3 := blk_frozen BK148.out 3; have hfz14_4 := blk_frozen BK148.out 4))
 go_ret
 exact ⟨qzw, qz1⟩
 }
 {
 rw [if_neg c8] at H
 have c8b0 : ((a2 == a0_1) != (a3 == a0_1)) = false := by simpa using c8
 (try (have c8b1 : decide ((a2 == a0_1) = (a3 == a0_1)) = true := by simpa using c8))
 (try (have c8b2 : ((a2 == a0_1) == (a3 == a0_1)) = true := by simpa using c8))
 clear c8
 obtain rfl := Option.some.inj H
 simp only [Option.some.injEq, Prod.mk.injEq] at H
 obtain ⟨rfl⟩ := H
 go_enter Try.func100, Try.ntmps100
 go_wp2_with (first | ((with_reducible refine gate_dst (N := 4) rfl ?_); refine bx_ 4 #[.int .i64 a0_0, .int .i64 a0_1, .int .i64 a0_2, .bool a0_3, .int .i64 a0_4] 37 ?_; intro gb148 hg w15 hbox hb; have BK148 := aM (hbox); have GW148 := aM (bz_ w hg qz1); have GE148 := GW148; replace HB := bS_ hb; clear hb hbox hg; have hcz16_0 := bc0_ BK148.out; have hcz16_1 := bc1_ BK148.out; have hcz16_2 := bc2_ BK148.out; have hcz16_3 := bc3_ BK148.out; have hcz16_4 := bc4_ BK148.out; have hfz16_0 := blk_frozen BK148.out 0; have hfz16_1 := blk_frozen BK148.out 1; have hfz16_2 := blk_frozen BK148.out 2; have hfz16_3 := blk_frozen BK148.out 3; have hfz16_4 := blk_frozen BK148.out 4) | ((with_reducible refine gate_callee (f := 124) rfl ?_); refine goesL_ (some 14) rfl rfl Try.func124 (by kernel_rfl) rfl #[.agg #[.int .i64 a0_0, .int .i64 a0_1, .int .i64 a0_2, .bool a0_3, .int .i64 a0_4], .slice A1 l1.length c1, .int .i64 a2] rfl qz4 ?_; (with_reducible refine (spec_l7Rank.calls a0_0 a0_1 a0_2 a0_3 a0_4 _ _ l1 a2 t149 _ ?side1 ?side2 A5.out).mono ?_); (case side1 => exact qz17); (case side2 => exact HC1.out); rintro e w17 ⟨rfl, hb⟩; refine ⟨_, rfl, ?_⟩; replace BK148 := bB_ BK148 hb; replace HB := bS_ hb; (try clear hb); have hcz18_0 := bc0_ BK148.out; have hcz18_1 := bc1_ BK148.out; have hcz18_2 := bc2_ BK148.out; have hcz18_3 := bc3_ BK148.out; have hcz18_4 := bc4_ BK148.out; have hfz18_0 := blk_frozen BK148.out 0; have hfz18_1 := blk_frozen BK148.out 1; have hfz18_2 := blk_frozen BK148.out 2; have hfz18_3 := blk_frozen BK148.out 3; have hfz18_4 := blk_frozen BK148.out 4) | ((with_reducible refine gate_callee (f := 124) rfl ?_); refine goesL_ (some 18) rfl rfl Try.func124 (by kernel_rfl) rfl #[.agg #[.int .i64 a0_0, .int .i64 a0_1, .int .i64 a0_2, .bool a0_3, .int .i64 a0_4], .slice A1 l1.length c1, .int .i64 a3] rfl qz4 ?_; (with_reducible refine (spec_l7Rank.calls a0_0 a0_1 a0_2 a0_3 a0_4 _ _ l1 a3 t150 _ ?side1 ?side2 A6.out).mono ?_); (case side1 => exact qz17); (case side2 => exact HC1.out); rintro e w19 ⟨rfl, hb⟩; refine ⟨_, rfl, ?_⟩; replace BK148 := bB_ BK148 hb; replace HB := bS_ hb; (try clear hb); have hcz20_0 := bc0_ BK148.out; have hcz20_1 := bc1_ BK148.out; have hcz20_2 := bc2_ BK148.out; have hcz20_3 := bc3_ BK148.out; have hcz20_4 := bc4_ BK148.out; have hfz20_0 := blk_frozen BK148.out 0; have hfz20_1 := blk_frozen BK148.out 1; have hfz20_2 := blk_frozen BK148.out 2; have hfz20_3 := blk_frozen BK148.out 3; have hfz20_4 := blk_frozen BK148.out 4))
 go_ret
 exact ⟨qzw, qz1⟩
 }
 }
 {
 rw [if_neg c7] at H
 have c7b0 := beq_eq_false_iff_ne.mpr c7
 have c7b1 := bne_iff_ne.mpr c7
 obtain rfl := Option.some.inj H
 simp only [Option.some.injEq, Prod.mk.injEq] at H
 obtain ⟨rfl⟩ := H
 go_enter Try.func100, Try.ntmps100
 go_wp2_with (first | ((with_reducible refine gate_dst (N := 4) rfl ?_); refine bx_ 4 #[.int .i64 a0_0, .int .i64 a0_1, .int .i64 a0_2, .bool a0_3, .int .i64 a0_4] 37 ?_; intro gb148 hg w21 hbox hb; have BK148 := aM (hbox); have GW148 := aM (bz_ w hg qz1); have GE148 := GW148; replace HB := bS_ hb; clear hb hbox hg; have hcz22_0 := bc0_ BK148.out; have hcz22_1 := bc1_ BK148.out; have hcz22_2 := bc2_ BK148.out; have hcz22_3 := bc3_ BK148.out; have hcz22_4 := bc4_ BK148.out; have hfz22_0 := blk_frozen BK148.out 0; have hfz22_1 := blk_frozen BK148.out 1; have hfz22_2 := blk_frozen BK148.out 2; have hfz22_3 := blk_frozen BK148.out 3; have hfz22_4 := blk_frozen BK148.out 4) | ((with_reducible refine gate_callee (f := 124) rfl ?_); refine goesL_ (some 14) rfl rfl Try.func124 (by kernel_rfl) rfl #[.agg #[.int .i64 a0_0, .int .i64 a0_1, .int .i64 a0_2, .bool a0_3, .int .i64 a0_4], .slice A1 l1.length c1, .int .i64 a2] rfl qz4 ?_; (with_reducible refine (spec_l7Rank.calls a0_0 a0_1 a0_2 a0_3 a0_4 _ _ l1 a2 t149 _ ?side1 ?side2 A5.out).mono ?_); (case side1 => exact qz17); (case side2 => exact HC1.out); rintro e w23 ⟨rfl, hb⟩; refine ⟨_, rfl, ?_⟩; replace BK148 := bB_ BK148 hb; replace HB := bS_ hb; (try clear hb); have hcz24_0 := bc0_ BK148.out; have hcz24_1 := bc1_ BK148.out; have hcz24_2 := bc2_ BK148.out; have hcz24_3 := bc3_ BK148.out; have hcz24_4 := bc4_ BK148.out; have hfz24_0 := blk_frozen BK148.out 0; have hfz24_1 := blk_frozen BK148.out 1; have hfz24_2 := blk_frozen BK148.out 2; have hfz24_3 := blk_frozen BK148.out 3; have hfz24_4 := blk_frozen BK148.out 4) | ((with_reducible refine gate_callee (f := 124) rfl ?_); refine goesL_ (some 18) rfl rfl Try.func124 (by kernel_rfl) rfl #[.agg #[.int .i64 a0_0, .int .i64 a0_1, .int .i64 a0_2, .bool a0_3, .int .i64 a0_4], .slice A1 l1.length c1, .int .i64 a3] rfl qz4 ?_; (with_reducible refine (spec_l7Rank.calls a0_0 a0_1 a0_2 a0_3 a0_4 _ _ l1 a3 t150 _ ?side1 ?side2 A6.out).mono ?_); (case side1 => exact qz17); (case side2 => exact HC1.out); rintro e w25 ⟨rfl, hb⟩; refine ⟨_, rfl, ?_⟩; replace BK148 := bB_ BK148 hb; replace HB := bS_ hb; (try clear hb)))
 go_ret
 exact ⟨qzw, qz1⟩

 }
end Go.Proofs.Ytankmdbbgepmbaa.PFnChosen
