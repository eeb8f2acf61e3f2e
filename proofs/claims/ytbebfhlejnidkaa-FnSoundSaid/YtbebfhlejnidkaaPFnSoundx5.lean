-- Made by a program of this session out of the translation. Lean checks it.
import Derived.Test.YtbebfhlejnidkaaPFnSoundx0
import Derived.Test.YtbebfhlejnidkaaPFnSoundx1
import Derived.Test.YtbebfhlejnidkaaPFnSoundx2
import Derived.Test.YtbebfhlejnidkaaPFnSoundx4
namespace Go.Proofs.Ytbebfhlejnidkaa.PFnSound
open Go.RowKit Go.Proofs.YtbebfhlejnidkaaW.PrintWords Go.Proofs.YtbebfhlejnidkaaW.PrintLast Go.Proofs.YtbebfhlejnidkaaW.PrintMore
attribute [local go_sem] max2_int min2_int max_two min_two max_three min_three max_four min_four   -- for this text's walks alone
set_option linter.unusedVariables false
set_option linter.unusedSimpArgs false

/-! ### spec_Cuts: function 56 -/
def spec_Cuts.l0 : Nat → List Int → Int → Int → Int → List Int → Option (List Int)
 | 0, _, _, _, _, _ => none
 | k + 1, x3, x4, x222000, x222001, x222002 => if x4 < (x222002.length : Int) then (if 0 ≤ x4 then (if (rd x222002 x4) = 0 then (spec_Cuts.l0 k x3 (wrap64 (x4 + 1)) x222000 x222001 x222002) else ((spec_l1Near.f k x222000 x222001 x222002 x4 false).bind fun t227 => ((spec_l2Reached.f k x222000 x222001 x222002 x4 (-1)).bind fun t230 => (if (t227.length : Int) > 1 then (if 0 < (t227.length : Int) then ((spec_l2Reached.f k x222000 x222001 x222002 (rd t227 0) x4).bind fun t232 => (if t232 = (wrap64 (t230 - 1)) then (spec_Cuts.l0 k x3 (wrap64 (x4 + 1)) x222000 x222001 x222002) else (if x3.length < 17592186044416 then (spec_Cuts.l0 k (x3 ++ [x4]) (wrap64 (x4 + 1)) x222000 x222001 x222002) else (none)))) else (none)) else (spec_Cuts.l0 k x3 (wrap64 (x4 + 1)) x222000 x222001 x222002))))) else (none)) else (some x3)
def spec_Cuts.f (k : Nat) (a0_0 : Int) (a0_1 : Int) (l0_2 : List Int) : Option (List Int) := (some (([] : List Int) : List Int)).bind fun y222 => ((spec_FloorOk.f k a0_0 a0_1 l0_2).bind fun t225 => (if t225 = true then (spec_Cuts.l0 k y222 0 a0_0 a0_1 l0_2) else (some y222)))
theorem spec_Cuts.mono_l : ∀ k, (∀ y0 y1 y2 y3 y4, LeO (spec_Cuts.l0 k y0 y1 y2 y3 y4) (spec_Cuts.l0 (k + 1) y0 y1 y2 y3 y4))
 | 0 => fun _ _ _ _ _ r h => by simp [spec_Cuts.l0] at h
 | k + 1 => by
  have ih0 := spec_Cuts.mono_l k
  {
  intro y0 y1 y2 y3 y4
  unfold spec_Cuts.l0
  repeat' first
  | (with_reducible first | exact ih0 _ _ _ _ _ | exact spec_FloorOk.mono _ _ _ _ | exact spec_l1Near.mono _ _ _ _ _ _ | exact spec_l2Reached.mono _ _ _ _ _ _ | exact LeO.refl _ | exact LeO.none _ | refine LeO.ite ?_ ?_ | refine LeO.bind ?_ (fun _ => ?_))
  | exact ih0 _ _ _ _ _
  | exact spec_FloorOk.mono _ _ _ _
  | exact spec_l1Near.mono _ _ _ _ _ _
  | exact spec_l2Reached.mono _ _ _ _ _ _
  | exact LeO.none _
  | refine LeO.ite ?_ ?_
  | refine LeO.bind ?_ (fun _ => ?_)
  }
theorem spec_Cuts.mono : ∀ a0 a1 a2 k, LeO (spec_Cuts.f k a0 a1 a2) (spec_Cuts.f (k + 1) a0 a1 a2) := by
 intro a0 a1 a2 k
 have ih0 := spec_Cuts.mono_l k
 unfold spec_Cuts.f
 repeat' first
  | (with_reducible first | exact ih0 _ _ _ _ _ | exact spec_FloorOk.mono _ _ _ _ | exact spec_l1Near.mono _ _ _ _ _ _ | exact spec_l2Reached.mono _ _ _ _ _ _ | exact LeO.refl _ | exact LeO.none _ | refine LeO.ite ?_ ?_ | refine LeO.bind ?_ (fun _ => ?_))
  | exact ih0 _ _ _ _ _
  | exact spec_FloorOk.mono _ _ _ _
  | exact spec_l1Near.mono _ _ _ _ _ _
  | exact spec_l2Reached.mono _ _ _ _ _ _
  | exact LeO.none _
  | refine LeO.ite ?_ ?_
  | refine LeO.bind ?_ (fun _ => ?_)
def spec_Cuts.T10 : Bool × List (List Nat × List Nat) := (true, [([], []), ([0], [0]), ([1], [1]), ([2], [2]), ([3], [3]), ([3], [3]), ([5, 3], [3, 5]), ([6, 3], [3, 6]), ([3], [3]), ([4, 7, 8, 3, 3], [3, 4, 7, 8]), ([3], [3]), ([10, 3], [3, 10]), ([9, 11, 3], [3, 9, 11]), ([3, 12], [3, 12])])
def spec_Cuts.B10 : List Nat := [0, 1, 3, 7, 15, 15, 47, 111, 15, 511, 15, 1039, 4095, 8191]
theorem spec_Cuts.tab10 : rtab .any (opsOf Try.f56 10) = spec_Cuts.T10 := by kernel_rfl
theorem spec_Cuts.bits10 : waitsOk spec_Cuts.T10.2 spec_Cuts.B10 = true := by kernel_rfl
set_option maxHeartbeats 8000000 in
set_option maxRecDepth 100000 in
theorem spec_Cuts.calls (k : Nat) (a0_0 : Int) (a0_1 : Int) (A0_2 : Option Addr) (c0_2 : Nat) (l0_2 : List Int) (r : List Int) (w : World) (hr0_2 : Kd.C (Kd.int .i64) w A0_2 l0_2.length l0_2) (hc0_2 : l0_2.length ≤ c0_2) (h : spec_Cuts.f k a0_0 a0_1 l0_2 = some r) :
  Calls Try.prog 56 #[.agg #[.int .i64 a0_0, .int .i64 a0_1, .slice A0_2 l0_2.length c0_2]] w fun e w' => ∃ v0_ : Value, e = .returned (v0_) ∧ Kd.R (Kd.int .i64) 3 w' w.heap.size (fun _ => True) v0_ r ∧ Below w.heap.size w w' := by
 have hu43 := Try.underlying43
 have HR0_2 := aM hr0_2
 have HC0_2 := aM hc0_2
 clear hr0_2 hc0_2
 have HB := aM (Below.refl w.heap.size w)
 have H : ((some (([] : List Int) : List Int)).bind fun y222 => ((spec_FloorOk.f k a0_0 a0_1 l0_2).bind fun t225 => (if t225 = true then (spec_Cuts.l0 k y222 0 a0_0 a0_1 l0_2) else (some y222)))) = some r := h
 clear h
 obtain ⟨y222, hy222⟩ : ∃ y_ : List Int, y_ = (([] : List Int)) := ⟨_, rfl⟩
 replace H : ((spec_FloorOk.f k a0_0 a0_1 l0_2).bind fun t225 => (if t225 = true then (spec_Cuts.l0 k y222 0 a0_0 a0_1 l0_2) else (some y222))) = some r := by first | (rw [hy222]; with_reducible exact H) | (have H2_ := (Option.bind_some _ _).symm.trans H; rw [hy222]; with_reducible exact H2_) | (have H2_ := (Option.bind_some _ _).symm.trans H; with_reducible exact H2_) | with_reducible exact H | (rw [hy222]; exact H) | exact H
 have Ny222 := aM hy222
 clear hy222
 replace H := Option.bind_eq_some_iff.mp H
 obtain ⟨t225, A20, H⟩ := H
 replace H : (if t225 = true then (spec_Cuts.l0 k y222 0 a0_0 a0_1 l0_2) else (some y222)) = some r := H
 have A2 := aM A20
 clear A20
 by_cases c3 : t225 = true
 {
 subst c3
 rw [if_pos rfl] at H
 have H' := aM H
 clear H
 go_enter Try.func56, Try.ntmps56
 go_wp2_with (first | ((with_reducible refine gate_dst (N := 1) rfl ?_); refine bx_ 1 #[.int .i64 a0_0, .int .i64 a0_1, .slice A0_2 l0_2.length c0_2] 43 ?_; intro gb221 hg w4 hbox hb; have n0_ := aM (below_step qz1 hb); have n1_ := aM (hbox); have n2_ := aM ((by rw [hg]; exact (below_size qz1) : w.heap.size ≤ gb221)); have n3_ := aM ((by rw [hg]; exact (below_size qz1) : w.heap.size ≤ gb221)); clear HB; have HB := n0_; have BK221 := n1_; have GW221 := n2_; have GE221 := n3_; clear n0_ n1_ n2_ n3_; clear hb hbox hg) | ((with_reducible refine gate_dst (N := 7) rfl ?_); refine Kd.R_lit (Kd.int .i64) _ 3 ?hg (N := 7) ?hd (xs := ([] : List Int)) (inner := []) (ok := fun _ => True) (okp := fun _ => True) ?hr ?hp (fun _ hk => hk) trivial (Below.refl _ _) (Nat.le_refl _) (by simp) ?_; (case hd => rfl); (case hg => rfl); (case hr => exact qz28); (case hp => exact (Reps.none _ _)); intro v223 w5 ho6 hb hg_ hnew_; clear hg_ hnew_; (first | rw [← Ny222.out] at ho6 | (simp only [Int.reduceToNat] at ho6; rw [← Ny222.out] at ho6)); have n0_ := aM (Kd.R_lower ho6 (below_size qz13)); have n1_ := aM (blk_below (bk_ BK221.out) hb); have n2_ := aM (below_step qz13 hb); clear BK221 HB; have HO224 := n0_; have BK221 := n1_; have HB := n2_; clear n0_ n1_ n2_; clear hb ho6; obtain ⟨hcz7_0, hcz7_1, hcz7_2, hfz7_0, hfz7_1, hfz7_2⟩ := b6_ BK221.out) | ((with_reducible refine gate_callee (f := 60) rfl ?_); refine goesL_ (some 9) rfl rfl Try.func60 (by kernel_rfl) rfl #[.agg #[.int .i64 a0_0, .int .i64 a0_1, .slice A0_2 l0_2.length c0_2]] rfl qz3 ?_; (with_reducible refine (spec_FloorOk.calls k a0_0 a0_1 _ _ l0_2 true _ ?side1 ?side2 A2.out).mono ?_); (case side1 => exact qz4); (case side2 => exact qz69); rintro e w8 ⟨rfl, hb⟩; refine ⟨_, rfl, ?_⟩; have n0_ := aM (Kd.R_below (rr_ HO224.out) hb); have n1_ := aM (blk_below (bk_ BK221.out) hb); have n2_ := aM (below_step qz13 hb); clear HO224 BK221 HB; have HO224 := n0_; have BK221 := n1_; have HB := n2_; clear n0_ n1_ n2_; (try clear hb); (try clear hb2); (try clear hk); (try clear hi)))
 go_loopg [3, 4] k (fun kq v3 v4 w' => ∃ (x3_1 : List Int) (x4_1 : Int), v4 = .int .i64 x4_1 ∧ Aside0 (spec_Cuts.l0 kq x3_1 x4_1 a0_0 a0_1 l0_2 = some r) ∧ Aside0 (kq ≤ k) ∧ Aside0 (Kd.R (Kd.int .i64) 3 w' w.heap.size (fun _ => True) v3 x3_1) ∧ Aside0 (w'.heap[gb221]? = some (.cells #[.int .i64 a0_0, .int .i64 a0_1, (.slice A0_2 l0_2.length c0_2)] 43 (0, 0))) ∧ Aside0 (Below w.heap.size w w'))
 case atStart => exact ⟨(y222), (0), qz5, H', ⟨Nat.le_refl _⟩, ⟨rr_ HO224.out⟩, ⟨bk_ BK221.out⟩, ⟨by repeat (first | (with_reducible first | exact HB.out | apply below_alloc | apply pw_below_drewN | apply below_drew1 | refine below_set ?_ GE221.out) | exact HB.out)⟩⟩
 case round =>
  clear H'
  try clear p2
  try clear c3
  try clear c5
  try clear c6
  try clear hcz7_0
  try clear hcz7_1
  try clear hcz7_2
  try clear hfz7_0
  try clear hfz7_1
  try clear hfz7_2
  obtain ⟨x3_1, x4_1, rfl, HA, HK1, HO_3, BK221, HB⟩ := hrel
  cases gk with
  | zero => exact absurd HA.out (by simp [spec_Cuts.l0])
  | succ k1 =>
   have H := HA.out
   clear HA
   simp only [spec_Cuts.l0] at H
   by_cases c9 : x4_1 < (l0_2.length : Int)
   {
   rw [if_pos c9] at H
   have c9b0 := decide_eq_true c9
   clear c9
   by_cases c10 : 0 ≤ x4_1
   {
   rw [if_pos c10] at H
   have c10b0 := decide_eq_true c10
   clear c10
   by_cases c11 : (rd l0_2 x4_1) = 0
   {
   rw [if_pos c11] at H
   have c11b0 := beq_iff_eq.mpr c11
   have c11b1 := bne_eq_false_iff_eq.mpr c11
   clear c11
   have H' := aM H
   clear H
   obtain ⟨hcz12_0, hcz12_1, hcz12_2, hfz12_0, hfz12_1, hfz12_2⟩ := b6_ BK221.out
   have p226 : 0 ≤ (x4_1 : Int) := of_decide_eq_true qz2
   have q226 : x4_1 < (l0_2.length : Int) := of_decide_eq_true qz2
   obtain ⟨ad226, e226, hx226_0⟩ := Kd.at_int HR0_2.out x4_1 p226 q226
   cases e226
   replace hx226_0 := pw_cell_below HB.out hx226_0
   replace p226 := eq_true p226
   replace q226 := eq_true q226
   go_wp2
   go_roundg k1
   case measure => have := HK1.out; omega
   case rel => exact ⟨(x3_1), (wrap64 (x4_1 + 1)), qz5, H', ⟨by have := HK1.out; omega⟩, ⟨rm_ HO_3.out⟩, ⟨bk_ BK221.out⟩, ⟨by repeat (first | (with_reducible first | exact HB.out | apply below_alloc | apply pw_below_drewN | apply below_drew1 | refine below_set ?_ GE221.out) | exact HB.out)⟩⟩
   }
   {
   rw [if_neg c11] at H
   have c11b0 := beq_eq_false_iff_ne.mpr c11
   have c11b1 := bne_iff_ne.mpr c11
   replace H := Option.bind_eq_some_iff.mp H
   obtain ⟨t227, A130, H⟩ := H
   replace H : ((spec_l2Reached.f k1 a0_0 a0_1 l0_2 x4_1 (-1)).bind fun t230 => (if (t227.length : Int) > 1 then (if 0 < (t227.length : Int) then ((spec_l2Reached.f k1 a0_0 a0_1 l0_2 (rd t227 0) x4_1).bind fun t232 => (if t232 = (wrap64 (t230 - 1)) then (spec_Cuts.l0 k1 x3_1 (wrap64 (x4_1 + 1)) a0_0 a0_1 l0_2) else (if x3_1.length < 17592186044416 then (spec_Cuts.l0 k1 (x3_1 ++ [x4_1]) (wrap64 (x4_1 + 1)) a0_0 a0_1 l0_2) else (none)))) else (none)) else (spec_Cuts.l0 k1 x3_1 (wrap64 (x4_1 + 1)) a0_0 a0_1 l0_2))) = some r := H
   have A13 := aM A130
   clear A130
   replace H := Option.bind_eq_some_iff.mp H
   obtain ⟨t230, A140, H⟩ := H
   replace H : (if (t227.length : Int) > 1 then (if 0 < (t227.length : Int) then ((spec_l2Reached.f k1 a0_0 a0_1 l0_2 (rd t227 0) x4_1).bind fun t232 => (if t232 = (wrap64 (t230 - 1)) then (spec_Cuts.l0 k1 x3_1 (wrap64 (x4_1 + 1)) a0_0 a0_1 l0_2) else (if x3_1.length < 17592186044416 then (spec_Cuts.l0 k1 (x3_1 ++ [x4_1]) (wrap64 (x4_1 + 1)) a0_0 a0_1 l0_2) else (none)))) else (none)) else (spec_Cuts.l0 k1 x3_1 (wrap64 (x4_1 + 1)) a0_0 a0_1 l0_2)) = some r := H
   have A14 := aM A140
   clear A140
   by_cases c15 : (t227.length : Int) > 1
   {
   rw [if_pos c15] at H
   have c15b0 := decide_eq_true c15
   have c15b1 : decide (1 < t227.length) = true := decide_eq_true (by omega)
   clear c15
   by_cases c16 : 0 < (t227.length : Int)
   {
   rw [if_pos c16] at H
   have c16b0 := decide_eq_true c16
   have c16b1 : decide (0 < t227.length) = true := decide_eq_true (by omega)
   clear c16
   replace H := Option.bind_eq_some_iff.mp H
   obtain ⟨t232, A170, H⟩ := H
   replace H : (if t232 = (wrap64 (t230 - 1)) then (spec_Cuts.l0 k1 x3_1 (wrap64 (x4_1 + 1)) a0_0 a0_1 l0_2) else (if x3_1.length < 17592186044416 then (spec_Cuts.l0 k1 (x3_1 ++ [x4_1]) (wrap64 (x4_1 + 1)) a0_0 a0_1 l0_2) else (none))) = some r := H
   have A17 := aM A170
   clear A170
   by_cases c18 : t232 = (wrap64 (t230 - 1))
   {
   rw [if_pos c18] at H
   have c18b0 := beq_iff_eq.mpr c18
   have c18b1 := bne_eq_false_iff_eq.mpr c18
   clear c18
   have H' := aM H
   clear H
   obtain ⟨hcz19_0, hcz19_1, hcz19_2, hfz19_0, hfz19_1, hfz19_2⟩ := b6_ BK221.out
   have p226 : 0 ≤ (x4_1 : Int) := of_decide_eq_true qz2
   have q226 : x4_1 < (l0_2.length : Int) := of_decide_eq_true qz2
   obtain ⟨ad226, e226, hx226_0⟩ := Kd.at_int HR0_2.out x4_1 p226 q226
   cases e226
   replace hx226_0 := pw_cell_below HB.out hx226_0
   replace p226 := eq_true p226
   replace q226 := eq_true q226
   try go_wp2_with (first | ((with_reducible refine gate_callee (f := 61) rfl ?_); refine goesL_ (some 27) rfl rfl Try.func61 (by kernel_rfl) rfl #[.agg #[.int .i64 a0_0, .int .i64 a0_1, .slice (some ad226) l0_2.length c0_2], .int .i64 x4_1, .bool false] rfl qz3 ?_; (with_reducible refine (spec_l1Near.calls k1 a0_0 a0_1 _ _ l0_2 x4_1 false t227 _ ?side1 ?side2 A13.out).mono ?_); (case side1 => exact qz4); (case side2 => exact qz69); rintro e w20 ⟨v228, rfl, ho0, hb⟩; refine ⟨_, rfl, ?_⟩; have n0_ := aM (Kd.R_elder' (rr_ HO_3.out) (Kd.R_base ho0) hb); have n1_ := aM (Kd.R_lower (Kd.R_new' ho0 (Kd.R_lt (rr_ HO_3.out))) (below_size qz13)); have n2_ := aM (blk_below (bk_ BK221.out) hb); have n3_ := aM (below_step qz13 hb); clear HO_3 BK221 HB; have HO_3 := n0_; have HO229 := n1_; have BK221 := n2_; have HB := n3_; clear n0_ n1_ n2_ n3_; (try clear hb); (try clear hb2); (try clear hk); (try clear hi); (try clear ho0); obtain ⟨hcz21_0, hcz21_1, hcz21_2, hfz21_0, hfz21_1, hfz21_2⟩ := b6_ BK221.out) | ((with_reducible refine gate_callee (f := 71) rfl ?_); refine goesL_ (some 30) rfl rfl Try.func71 (by kernel_rfl) rfl #[.agg #[.int .i64 a0_0, .int .i64 a0_1, .slice (some ad226) l0_2.length c0_2], .int .i64 x4_1, .int .i64 (-1)] rfl qz3 ?_; (with_reducible refine (spec_l2Reached.calls k1 a0_0 a0_1 _ _ l0_2 x4_1 (-1) t230 _ ?side1 ?side2 A14.out).mono ?_); (case side1 => exact qz4); (case side2 => exact qz69); rintro e w22 ⟨rfl, hb⟩; refine ⟨_, rfl, ?_⟩; have n0_ := aM (Kd.R_below (rr_ HO_3.out) hb); have n1_ := aM (Kd.R_below (rr_ HO229.out) hb); have n2_ := aM (blk_below (bk_ BK221.out) hb); have n3_ := aM (below_step qz13 hb); clear HO_3 HO229 BK221 HB; have HO_3 := n0_; have HO229 := n1_; have BK221 := n2_; have HB := n3_; clear n0_ n1_ n2_ n3_; (try clear hb); (try clear hb2); (try clear hk); (try clear hi)))
   have n0_ := aM (Kd.R_drew HO_3.out)
   have n1_ := aM (Kd.R_drew HO229.out)
   have n2_ := aM (blk_drew BK221.out)
   have n3_ := aM (below_drew1 HB.out)
   clear HO_3
   clear HO229
   clear BK221
   clear HB
   have HO_3 := n0_
   have HO229 := n1_
   have BK221 := n2_
   have HB := n3_
   clear n0_ n1_ n2_ n3_
   obtain ⟨Ao24, co24, eo24⟩ := Kd.R_slice HO229.out
   (first | subst eo24 | (injection eo24 with f1_ f2_ f3_; have f4_ := f1_.symm; have f5_ := f3_.symm; clear f1_ f2_ f3_; subst f4_; subst f5_))
   have p231 : 0 ≤ (0 : Int) := (by omega)
   have q231 : 0 < (t227.length : Int) := of_decide_eq_true qz2
   obtain ⟨ad231, e231, hx231_0⟩ := Kd.at_int (Kd.R_reads' HO229.out).2.2 0 p231 q231
   cases e231
   have qi231 : (0 < t227.length) = True := eq_true (by omega)
   (try rw [show ((0 : Int)).toNat = 0 from rfl] at hx231_0)
   (try rw [Addr.add_zero'] at hx231_0)
   replace p231 := eq_true p231
   replace q231 := eq_true q231
   refine start_ (n := 14) (S := fun w' => w'.cell? ⟨gb221, 0, none⟩ = some (.int .i64 a0_0) ∧ w'.cell? ⟨gb221, 1, none⟩ = some (.int .i64 a0_1) ∧ w'.cell? ⟨gb221, 2, none⟩ = some (.slice (some ad226) l0_2.length c0_2) ∧ w'.cell? ad231 = some (.int .i64 (rd t227 0))) (ds := []) #[false, false, false, false, false, false, false, false, false, false, false, false, false, false] (by kernel_rfl) rfl rfl ⟨(blk_cell BK221.out 0).trans rfl, (blk_cell BK221.out 1).trans rfl, (blk_cell BK221.out 2).trans rfl, hx231_0⟩ (fun hHeld => ?_); refine with_tabW spec_Cuts.tab10 spec_Cuts.bits10 (fun HT_ HW_ => ?_)
   generalize w22.drew = w23 at HO_3 HO229 BK221 HB hx231_0 hHeld ⊢
   refine pI_ 0 31 (bqz 14 1) ?_
   refine pI_ 1 32 (bqz 14 3) ?_
   refine pI_ 2 33 (bqz 14 7) ?_
   refine pI_ 3 34 (bqz 14 15) ?_
   refine pI_ 5 36 (bqz 14 47) ?_
   refine pI_ 6 37 (bqz 14 111) ?_
   refine pI_ 8 39 (bqz 14 367) ?_
   refine pI_ 10 41 (bqz 14 1391) ?_
   refine pI_ 11 42 (bqz 14 3439) ?_
   refine tI4_ 4 35 (bqz 14 3455) ?_
   refine tI4_ 7 38 (bqz 14 3583) ?_
   refine one_ (i := 9) (N := some 40) (bqz 14 4095) rfl rfl qzc (by decide) (fun K hK => ?_)
   refine goes_ Try.func71 (by kernel_rfl) rfl #[.agg #[.int .i64 a0_0, .int .i64 a0_1, .slice (some ad226) l0_2.length c0_2], .int .i64 (rd t227 0), .int .i64 x4_1] (by rfl) rfl rfl qz3 ?_
   with_reducible refine (spec_l2Reached.calls k1 a0_0 a0_1 _ _ l0_2 (rd t227 0) x4_1 t232 _ ?side1 ?side2 A17.out).mono ?_
   (case side1 => exact qz4)
   (case side2 => exact qz69)
   rintro e w25 ⟨rfl, hb⟩
   have HS3_ := (hb.cell (World.block_lt_of_cell? _ _ (hHeld.2.2.2))).trans (hHeld.2.2.2)
   refine ⟨_, rfl, ?_⟩
   have n0_ := aM (Kd.R_below (rr_ HO_3.out) hb)
   have n1_ := aM (Kd.R_below (rr_ HO229.out) hb)
   have n2_ := aM (blk_below (bk_ BK221.out) hb)
   have n3_ := aM (below_step qz13 hb)
   clear HO_3
   clear HO229
   clear BK221
   clear HB
   have HO_3 := n0_
   have HO229 := n1_
   have BK221 := n2_
   have HB := n3_
   clear n0_ n1_ n2_ n3_
   (try clear hb)
   (try clear hb2)
   (try clear hk)
   (try clear hi)
   refine hK.out _ _ ⟨(blk_cell BK221.out 0).trans rfl, (blk_cell BK221.out 1).trans rfl, (blk_cell BK221.out 2).trans rfl, HS3_⟩ (fun hHeld => ?_)
   clear hK K
   refine norm_ (a' := ?_) ?_ ?_
   rotate_left
   {
   show Act.put _ (some 40) _ = _
   simp only [qzs]
   rfl
   }
   refine pI_ 12 43 (bqz 14 8191) ?_
   refine pI_ 13 44 (bqz 14 16383) ?_
   refine done_ (done_of HT_.out (by kernel_rfl)) ?_
   try go_wp2
   go_roundg k1
   case measure => have := HK1.out; omega
   case rel => exact ⟨(x3_1), (wrap64 (x4_1 + 1)), qz5, H', ⟨by have := HK1.out; omega⟩, ⟨by (with_reducible repeat (first | apply Kd.R_alloc | apply Kd.R_drewN | apply Kd.R_drew)); exact Kd.R_mono HO_3.out (fun _ hk => trivial)⟩, ⟨bk_ BK221.out⟩, ⟨by repeat (first | (with_reducible first | exact HB.out | apply below_alloc | apply pw_below_drewN | apply below_drew1 | refine below_set ?_ GE221.out) | exact HB.out)⟩⟩
   }
   {
   rw [if_neg c18] at H
   have c18b0 := beq_eq_false_iff_ne.mpr c18
   have c18b1 := bne_iff_ne.mpr c18
   by_cases c26 : x3_1.length < 17592186044416
   {
   rw [if_pos c26] at H
   have LMc26 := aM c26
   clear c26
   obtain ⟨y233, hy233⟩ : ∃ y_ : List Int, y_ = (x3_1 ++ [x4_1]) := ⟨_, rfl⟩
   replace H : (spec_Cuts.l0 k1 y233 (wrap64 (x4_1 + 1)) a0_0 a0_1 l0_2) = some r := by first | (rw [hy233]; with_reducible exact H) | (have H2_ := (Option.bind_some _ _).symm.trans H; rw [hy233]; with_reducible exact H2_) | (have H2_ := (Option.bind_some _ _).symm.trans H; with_reducible exact H2_) | with_reducible exact H | (rw [hy233]; exact H) | exact H
   have Ny233 := aM hy233
   clear hy233
   have H' := aM H
   clear H
   obtain ⟨hcz27_0, hcz27_1, hcz27_2, hfz27_0, hfz27_1, hfz27_2⟩ := b6_ BK221.out
   have p226 : 0 ≤ (x4_1 : Int) := of_decide_eq_true qz2
   have q226 : x4_1 < (l0_2.length : Int) := of_decide_eq_true qz2
   obtain ⟨ad226, e226, hx226_0⟩ := Kd.at_int HR0_2.out x4_1 p226 q226
   cases e226
   replace hx226_0 := pw_cell_below HB.out hx226_0
   replace p226 := eq_true p226
   replace q226 := eq_true q226
   try go_wp2_with (first | ((with_reducible refine gate_callee (f := 61) rfl ?_); refine goesL_ (some 27) rfl rfl Try.func61 (by kernel_rfl) rfl #[.agg #[.int .i64 a0_0, .int .i64 a0_1, .slice (some ad226) l0_2.length c0_2], .int .i64 x4_1, .bool false] rfl qz3 ?_; (with_reducible refine (spec_l1Near.calls k1 a0_0 a0_1 _ _ l0_2 x4_1 false t227 _ ?side1 ?side2 A13.out).mono ?_); (case side1 => exact qz4); (case side2 => exact qz69); rintro e w28 ⟨v228, rfl, ho0, hb⟩; refine ⟨_, rfl, ?_⟩; have n0_ := aM (Kd.R_elder' (rr_ HO_3.out) (Kd.R_base ho0) hb); have n1_ := aM (Kd.R_lower (Kd.R_new' ho0 (Kd.R_lt (rr_ HO_3.out))) (below_size qz13)); have n2_ := aM (blk_below (bk_ BK221.out) hb); have n3_ := aM (below_step qz13 hb); clear HO_3 BK221 HB; have HO_3 := n0_; have HO229 := n1_; have BK221 := n2_; have HB := n3_; clear n0_ n1_ n2_ n3_; (try clear hb); (try clear hb2); (try clear hk); (try clear hi); (try clear ho0); obtain ⟨hcz29_0, hcz29_1, hcz29_2, hfz29_0, hfz29_1, hfz29_2⟩ := b6_ BK221.out) | ((with_reducible refine gate_callee (f := 71) rfl ?_); refine goesL_ (some 30) rfl rfl Try.func71 (by kernel_rfl) rfl #[.agg #[.int .i64 a0_0, .int .i64 a0_1, .slice (some ad226) l0_2.length c0_2], .int .i64 x4_1, .int .i64 (-1)] rfl qz3 ?_; (with_reducible refine (spec_l2Reached.calls k1 a0_0 a0_1 _ _ l0_2 x4_1 (-1) t230 _ ?side1 ?side2 A14.out).mono ?_); (case side1 => exact qz4); (case side2 => exact qz69); rintro e w30 ⟨rfl, hb⟩; refine ⟨_, rfl, ?_⟩; have n0_ := aM (Kd.R_below (rr_ HO_3.out) hb); have n1_ := aM (Kd.R_below (rr_ HO229.out) hb); have n2_ := aM (blk_below (bk_ BK221.out) hb); have n3_ := aM (below_step qz13 hb); clear HO_3 HO229 BK221 HB; have HO_3 := n0_; have HO229 := n1_; have BK221 := n2_; have HB := n3_; clear n0_ n1_ n2_ n3_; (try clear hb); (try clear hb2); (try clear hk); (try clear hi)))
   have n0_ := aM (Kd.R_drew HO_3.out)
   have n1_ := aM (Kd.R_drew HO229.out)
   have n2_ := aM (blk_drew BK221.out)
   have n3_ := aM (below_drew1 HB.out)
   clear HO_3
   clear HO229
   clear BK221
   clear HB
   have HO_3 := n0_
   have HO229 := n1_
   have BK221 := n2_
   have HB := n3_
   clear n0_ n1_ n2_ n3_
   obtain ⟨Ao32, co32, eo32⟩ := Kd.R_slice HO229.out
   (first | subst eo32 | (injection eo32 with f1_ f2_ f3_; have f4_ := f1_.symm; have f5_ := f3_.symm; clear f1_ f2_ f3_; subst f4_; subst f5_))
   have p231 : 0 ≤ (0 : Int) := (by omega)
   have q231 : 0 < (t227.length : Int) := of_decide_eq_true qz2
   obtain ⟨ad231, e231, hx231_0⟩ := Kd.at_int (Kd.R_reads' HO229.out).2.2 0 p231 q231
   cases e231
   have qi231 : (0 < t227.length) = True := eq_true (by omega)
   (try rw [show ((0 : Int)).toNat = 0 from rfl] at hx231_0)
   (try rw [Addr.add_zero'] at hx231_0)
   replace p231 := eq_true p231
   replace q231 := eq_true q231
   refine start_ (n := 14) (S := fun w' => w'.cell? ⟨gb221, 0, none⟩ = some (.int .i64 a0_0) ∧ w'.cell? ⟨gb221, 1, none⟩ = some (.int .i64 a0_1) ∧ w'.cell? ⟨gb221, 2, none⟩ = some (.slice (some ad226) l0_2.length c0_2) ∧ w'.cell? ad231 = some (.int .i64 (rd t227 0))) (ds := []) #[false, false, false, false, false, false, false, false, false, false, false, false, false, false] (by kernel_rfl) rfl rfl ⟨(blk_cell BK221.out 0).trans rfl, (blk_cell BK221.out 1).trans rfl, (blk_cell BK221.out 2).trans rfl, hx231_0⟩ (fun hHeld => ?_); refine with_tabW spec_Cuts.tab10 spec_Cuts.bits10 (fun HT_ HW_ => ?_)
   generalize w30.drew = w31 at HO_3 HO229 BK221 HB hx231_0 hHeld ⊢
   refine pI_ 0 31 (bqz 14 1) ?_
   refine pI_ 1 32 (bqz 14 3) ?_
   refine pI_ 2 33 (bqz 14 7) ?_
   refine pI_ 3 34 (bqz 14 15) ?_
   refine pI_ 5 36 (bqz 14 47) ?_
   refine pI_ 6 37 (bqz 14 111) ?_
   refine pI_ 8 39 (bqz 14 367) ?_
   refine pI_ 10 41 (bqz 14 1391) ?_
   refine pI_ 11 42 (bqz 14 3439) ?_
   refine tI4_ 4 35 (bqz 14 3455) ?_
   refine tI4_ 7 38 (bqz 14 3583) ?_
   refine one_ (i := 9) (N := some 40) (bqz 14 4095) rfl rfl qzc (by decide) (fun K hK => ?_)
   refine goes_ Try.func71 (by kernel_rfl) rfl #[.agg #[.int .i64 a0_0, .int .i64 a0_1, .slice (some ad226) l0_2.length c0_2], .int .i64 (rd t227 0), .int .i64 x4_1] (by rfl) rfl rfl qz3 ?_
   with_reducible refine (spec_l2Reached.calls k1 a0_0 a0_1 _ _ l0_2 (rd t227 0) x4_1 t232 _ ?side1 ?side2 A17.out).mono ?_
   (case side1 => exact qz4)
   (case side2 => exact qz69)
   rintro e w33 ⟨rfl, hb⟩
   have HS3_ := (hb.cell (World.block_lt_of_cell? _ _ (hHeld.2.2.2))).trans (hHeld.2.2.2)
   refine ⟨_, rfl, ?_⟩
   have n0_ := aM (Kd.R_below (rr_ HO_3.out) hb)
   have n1_ := aM (Kd.R_below (rr_ HO229.out) hb)
   have n2_ := aM (blk_below (bk_ BK221.out) hb)
   have n3_ := aM (below_step qz13 hb)
   clear HO_3
   clear HO229
   clear BK221
   clear HB
   have HO_3 := n0_
   have HO229 := n1_
   have BK221 := n2_
   have HB := n3_
   clear n0_ n1_ n2_ n3_
   (try clear hb)
   (try clear hb2)
   (try clear hk)
   (try clear hi)
   refine hK.out _ _ ⟨(blk_cell BK221.out 0).trans rfl, (blk_cell BK221.out 1).trans rfl, (blk_cell BK221.out 2).trans rfl, HS3_⟩ (fun hHeld => ?_)
   clear hK K
   refine norm_ (a' := ?_) ?_ ?_
   rotate_left
   {
   show Act.put _ (some 40) _ = _
   simp only [qzs]
   rfl
   }
   refine pI_ 12 43 (bqz 14 8191) ?_
   refine pI_ 13 44 (bqz 14 16383) ?_
   refine done_ (done_of HT_.out (by kernel_rfl)) ?_
   try go_wp2_with (first | ((with_reducible refine gate_builtin (b := .append) (xs := #[.tmp 45, .tmp 47]) rfl ?_); at_builtin; refine Kd.R_append (Kd.int .i64) (w0 := w) w.heap.size rfl (.tmp 45) (.tmp 47) 24 3 (.int .i64 0) 8 rfl Try.underlying24 info3 rfl (by decide) (by omega) u3 x3_1 x4_1 [.int .i64 x4_1] (fun k_ => some k_ ≠ (.slice (some ad231) t227.length co32 : Value).ownBlock) (fun _ => False) rfl rfl ?aP (fun _ hk => hk.elim) ?aF ?aO ?aB ?aS ?aL ?_; (case aP => exact rfl); (case aB => exact qz13); (case aF => exact (fun k_ hk => Kd.fresh' (Kd.R_lt (rr_ HO229.out)) k_ hk)); (case aO => exact (by (with_reducible repeat (first | apply Kd.R_alloc | apply Kd.R_drewN | apply Kd.R_drew)); exact Kd.R_mono HO_3.out (fun _ hk => hk.2))); (case aS => exact (below_size qz13)); (case aL => have := LMc26.out; omega); intro v234 w34 ho hb hg hat; rw [← Ny233.out] at ho; have n0_ := aM (blk_grown (bk_ BK221.out) hg (Kd.R_ne HO_3.out BK221.out (by decide))); have n1_ := aM (Kd.R_after (ok := (fun _ => True)) (rr_ HO229.out) hg hat); have n2_ := aM (hb); have n3_ := aM (ho); clear BK221 HO229 HB HO_3; have BK221 := n0_; have HO229 := n1_; have HB := n2_; have HO235 := n3_; clear n0_ n1_ n2_ n3_; clear ho hb hg hat))
   go_roundg k1
   case measure => have := HK1.out; omega
   case rel => exact ⟨(y233), (wrap64 (x4_1 + 1)), qz5, H', ⟨by have := HK1.out; omega⟩, ⟨by (with_reducible repeat (first | apply Kd.R_alloc | apply Kd.R_drewN | apply Kd.R_drew)); exact Kd.R_mono HO235.out (fun _ hk => trivial)⟩, ⟨bk_ BK221.out⟩, ⟨by repeat (first | (with_reducible first | exact HB.out | apply below_alloc | apply pw_below_drewN | apply below_drew1 | refine below_set ?_ GE221.out) | exact HB.out)⟩⟩
   }
   {
   rw [if_neg c26] at H
   exact absurd H (by simp)
   }
   }
   }
   {
   rw [if_neg c16] at H
   exact absurd H (by simp)
   }
   }
   {
   rw [if_neg c15] at H
   have c15b0 := decide_eq_false c15
   have c15b1 : decide (1 < t227.length) = false := decide_eq_false (by omega)
   clear c15
   have H' := aM H
   clear H
   obtain ⟨hcz35_0, hcz35_1, hcz35_2, hfz35_0, hfz35_1, hfz35_2⟩ := b6_ BK221.out
   have p226 : 0 ≤ (x4_1 : Int) := of_decide_eq_true qz2
   have q226 : x4_1 < (l0_2.length : Int) := of_decide_eq_true qz2
   obtain ⟨ad226, e226, hx226_0⟩ := Kd.at_int HR0_2.out x4_1 p226 q226
   cases e226
   replace hx226_0 := pw_cell_below HB.out hx226_0
   replace p226 := eq_true p226
   replace q226 := eq_true q226
   try go_wp2_with (first | ((with_reducible refine gate_callee (f := 61) rfl ?_); refine goesL_ (some 27) rfl rfl Try.func61 (by kernel_rfl) rfl #[.agg #[.int .i64 a0_0, .int .i64 a0_1, .slice (some ad226) l0_2.length c0_2], .int .i64 x4_1, .bool false] rfl qz3 ?_; (with_reducible refine (spec_l1Near.calls k1 a0_0 a0_1 _ _ l0_2 x4_1 false t227 _ ?side1 ?side2 A13.out).mono ?_); (case side1 => exact qz4); (case side2 => exact qz69); rintro e w36 ⟨v228, rfl, ho0, hb⟩; refine ⟨_, rfl, ?_⟩; have n0_ := aM (Kd.R_elder' (rr_ HO_3.out) (Kd.R_base ho0) hb); have n1_ := aM (Kd.R_lower (Kd.R_new' ho0 (Kd.R_lt (rr_ HO_3.out))) (below_size qz13)); have n2_ := aM (blk_below (bk_ BK221.out) hb); have n3_ := aM (below_step qz13 hb); clear HO_3 BK221 HB; have HO_3 := n0_; have HO229 := n1_; have BK221 := n2_; have HB := n3_; clear n0_ n1_ n2_ n3_; (try clear hb); (try clear hb2); (try clear hk); (try clear hi); (try clear ho0); obtain ⟨hcz37_0, hcz37_1, hcz37_2, hfz37_0, hfz37_1, hfz37_2⟩ := b6_ BK221.out) | ((with_reducible refine gate_callee (f := 71) rfl ?_); refine goesL_ (some 30) rfl rfl Try.func71 (by kernel_rfl) rfl #[.agg #[.int .i64 a0_0, .int .i64 a0_1, .slice (some ad226) l0_2.length c0_2], .int .i64 x4_1, .int .i64 (-1)] rfl qz3 ?_; (with_reducible refine (spec_l2Reached.calls k1 a0_0 a0_1 _ _ l0_2 x4_1 (-1) t230 _ ?side1 ?side2 A14.out).mono ?_); (case side1 => exact qz4); (case side2 => exact qz69); rintro e w38 ⟨rfl, hb⟩; refine ⟨_, rfl, ?_⟩; have n0_ := aM (Kd.R_below (rr_ HO_3.out) hb); have n1_ := aM (Kd.R_below (rr_ HO229.out) hb); have n2_ := aM (blk_below (bk_ BK221.out) hb); have n3_ := aM (below_step qz13 hb); clear HO_3 HO229 BK221 HB; have HO_3 := n0_; have HO229 := n1_; have BK221 := n2_; have HB := n3_; clear n0_ n1_ n2_ n3_; (try clear hb); (try clear hb2); (try clear hk); (try clear hi)))
   have n0_ := aM (Kd.R_drew HO_3.out)
   have n1_ := aM (Kd.R_drew HO229.out)
   have n2_ := aM (blk_drew BK221.out)
   have n3_ := aM (below_drew1 HB.out)
   clear HO_3
   clear HO229
   clear BK221
   clear HB
   have HO_3 := n0_
   have HO229 := n1_
   have BK221 := n2_
   have HB := n3_
   clear n0_ n1_ n2_ n3_
   obtain ⟨Ao40, co40, eo40⟩ := Kd.R_slice HO229.out
   (first | subst eo40 | (injection eo40 with f1_ f2_ f3_; have f4_ := f1_.symm; have f5_ := f3_.symm; clear f1_ f2_ f3_; subst f4_; subst f5_))
   refine start_ (n := 14) (S := fun w' => True) (ds := []) #[false, false, false, false, false, false, false, false, false, false, false, false, false, false] (by kernel_rfl) rfl rfl trivial (fun hHeld => ?_); refine with_tabW spec_Cuts.tab10 spec_Cuts.bits10 (fun HT_ HW_ => ?_)
   generalize w38.drew = w39 at HO_3 HO229 BK221 HB hHeld ⊢
   refine pI_ 0 31 (bqz 14 1) ?_
   refine pI_ 1 32 (bqz 14 3) ?_
   refine pI_ 2 33 (bqz 14 7) ?_
   refine pI_ 3 34 (bqz 14 15) ?_
   refine pU_ 4 35 (bqz 14 31) ?_
   refine pU_ 5 36 (bqz 14 63) ?_
   refine pU_ 6 37 (bqz 14 127) ?_
   refine pU_ 7 38 (bqz 14 255) ?_
   refine pU_ 8 39 (bqz 14 511) ?_
   refine pU_ 9 40 (bqz 14 1023) ?_
   refine pU_ 10 41 (bqz 14 2047) ?_
   refine pU_ 11 42 (bqz 14 4095) ?_
   refine pU_ 12 43 (bqz 14 8191) ?_
   refine pI_ 13 44 (bqz 14 16383) ?_
   refine done_ (done_of HT_.out (by kernel_rfl)) ?_
   try go_wp2
   go_roundg k1
   case measure => have := HK1.out; omega
   case rel => exact ⟨(x3_1), (wrap64 (x4_1 + 1)), qz5, H', ⟨by have := HK1.out; omega⟩, ⟨by (with_reducible repeat (first | apply Kd.R_alloc | apply Kd.R_drewN | apply Kd.R_drew)); exact Kd.R_mono HO_3.out (fun _ hk => trivial)⟩, ⟨bk_ BK221.out⟩, ⟨by repeat (first | (with_reducible first | exact HB.out | apply below_alloc | apply pw_below_drewN | apply below_drew1 | refine below_set ?_ GE221.out) | exact HB.out)⟩⟩
   }
   }
   }
   {
   rw [if_neg c10] at H
   exact absurd H (by simp)
   }
   }
   {
   rw [if_neg c9] at H
   have c9b0 := decide_eq_false c9
   clear c9
   obtain rfl := Option.some.inj H
   simp only [Option.some.injEq, Prod.mk.injEq] at H
   obtain ⟨rfl⟩ := H
   obtain ⟨hcz41_0, hcz41_1, hcz41_2, hfz41_0, hfz41_1, hfz41_2⟩ := b6_ BK221.out
   go_wp2
   go_ret
   exact ⟨_, by first | rfl | (simp [errW_none, errW_some] <;> rfl) | (simp [*, errW_none, errW_some] <;> rfl), by (with_reducible repeat (first | apply Kd.R_alloc | apply Kd.R_drewN | apply Kd.R_drew)); exact HO_3.out, by repeat (first | (with_reducible first | exact HB.out | apply below_alloc | apply pw_below_drewN | apply below_drew1 | refine below_set ?_ GE221.out) | exact HB.out)⟩
   }
 }
 {
 replace c3 := Bool.eq_false_iff.mpr c3
 subst c3
 rw [if_neg (show ¬ (false = true) by decide)] at H
 obtain rfl := Option.some.inj H
 simp only [Option.some.injEq, Prod.mk.injEq] at H
 obtain ⟨rfl⟩ := H
 go_enter Try.func56, Try.ntmps56
 go_wp2_with (first | ((with_reducible refine gate_dst (N := 1) rfl ?_); refine bx_ 1 #[.int .i64 a0_0, .int .i64 a0_1, .slice A0_2 l0_2.length c0_2] 43 ?_; intro gb221 hg w42 hbox hb; have n0_ := aM (below_step qz1 hb); have n1_ := aM (hbox); have n2_ := aM ((by rw [hg]; exact (below_size qz1) : w.heap.size ≤ gb221)); have n3_ := aM ((by rw [hg]; exact (below_size qz1) : w.heap.size ≤ gb221)); clear HB; have HB := n0_; have BK221 := n1_; have GW221 := n2_; have GE221 := n3_; clear n0_ n1_ n2_ n3_; clear hb hbox hg) | ((with_reducible refine gate_dst (N := 7) rfl ?_); refine Kd.R_lit (Kd.int .i64) _ 3 ?hg (N := 7) ?hd (xs := ([] : List Int)) (inner := []) (ok := fun _ => True) (okp := fun _ => True) ?hr ?hp (fun _ hk => hk) trivial (Below.refl _ _) (Nat.le_refl _) (by simp) ?_; (case hd => rfl); (case hg => rfl); (case hr => exact qz28); (case hp => exact (Reps.none _ _)); intro v223 w43 ho44 hb hg_ hnew_; clear hg_ hnew_; (first | rw [← Ny222.out] at ho44 | (simp only [Int.reduceToNat] at ho44; rw [← Ny222.out] at ho44)); have n0_ := aM (Kd.R_lower ho44 (below_size qz13)); have n1_ := aM (blk_below (bk_ BK221.out) hb); have n2_ := aM (below_step qz13 hb); clear BK221 HB; have HO224 := n0_; have BK221 := n1_; have HB := n2_; clear n0_ n1_ n2_; clear hb ho44; obtain ⟨hcz45_0, hcz45_1, hcz45_2, hfz45_0, hfz45_1, hfz45_2⟩ := b6_ BK221.out) | ((with_reducible refine gate_callee (f := 60) rfl ?_); refine goesL_ (some 9) rfl rfl Try.func60 (by kernel_rfl) rfl #[.agg #[.int .i64 a0_0, .int .i64 a0_1, .slice A0_2 l0_2.length c0_2]] rfl qz3 ?_; (with_reducible refine (spec_FloorOk.calls k a0_0 a0_1 _ _ l0_2 false _ ?side1 ?side2 A2.out).mono ?_); (case side1 => exact qz4); (case side2 => exact qz69); rintro e w46 ⟨rfl, hb⟩; refine ⟨_, rfl, ?_⟩; have n0_ := aM (Kd.R_below (rr_ HO224.out) hb); have n1_ := aM (blk_below (bk_ BK221.out) hb); have n2_ := aM (below_step qz13 hb); clear HO224 BK221 HB; have HO224 := n0_; have BK221 := n1_; have HB := n2_; clear n0_ n1_ n2_; (try clear hb); (try clear hb2); (try clear hk); (try clear hi)))
 go_ret
 exact ⟨_, by first | rfl | (simp [errW_none, errW_some] <;> rfl) | (simp [*, errW_none, errW_some] <;> rfl), by (with_reducible repeat (first | apply Kd.R_alloc | apply Kd.R_drewN | apply Kd.R_drew)); exact HO224.out, by repeat (first | (with_reducible first | exact HB.out | apply below_alloc | apply pw_below_drewN | apply below_drew1 | refine below_set ?_ GE221.out) | exact HB.out)⟩

 }
/-! ### spec_Sound: function 28 -/
def spec_Sound.f (k : Nat) (a0_0 : Int) (a0_1 : Int) (l0_2 : List Int) : Option (Bool) := (spec_Together.f k a0_0 a0_1 l0_2).bind fun t237 => (if t237 = true then ((spec_l2Free.f k a0_0 a0_1 l0_2).bind fun t238 => (if (t238.length : Int) ≥ 4 then ((spec_Cuts.f k a0_0 a0_1 l0_2).bind fun t241 => (some ((t241.length : Int) == 0))) else (some false))) else (some false))
theorem spec_Sound.mono : ∀ a0 a1 a2 k, LeO (spec_Sound.f k a0 a1 a2) (spec_Sound.f (k + 1) a0 a1 a2) := by
 intro a0 a1 a2 k
 unfold spec_Sound.f
 repeat' first
  | (with_reducible first | exact spec_Cuts.mono _ _ _ _ | exact spec_Together.mono _ _ _ _ | exact spec_l2Free.mono _ _ _ _ | exact LeO.refl _ | exact LeO.none _ | refine LeO.ite ?_ ?_ | refine LeO.bind ?_ (fun _ => ?_))
  | exact spec_Cuts.mono _ _ _ _
  | exact spec_Together.mono _ _ _ _
  | exact spec_l2Free.mono _ _ _ _
  | exact LeO.none _
  | refine LeO.ite ?_ ?_
  | refine LeO.bind ?_ (fun _ => ?_)
set_option maxHeartbeats 8000000 in
set_option maxRecDepth 100000 in
theorem spec_Sound.calls (k : Nat) (a0_0 : Int) (a0_1 : Int) (A0_2 : Option Addr) (c0_2 : Nat) (l0_2 : List Int) (r : Bool) (w : World) (hr0_2 : Kd.C (Kd.int .i64) w A0_2 l0_2.length l0_2) (hc0_2 : l0_2.length ≤ c0_2) (h : spec_Sound.f k a0_0 a0_1 l0_2 = some r) :
  Calls Try.prog 28 #[.agg #[.int .i64 a0_0, .int .i64 a0_1, .slice A0_2 l0_2.length c0_2]] w fun e w' => e = .returned (.bool r) ∧ Below w.heap.size w w' := by
 have hu43 := Try.underlying43
 have HR0_2 := aM hr0_2
 have HC0_2 := aM hc0_2
 clear hr0_2 hc0_2
 have HB := aM (Below.refl w.heap.size w)
 have H : ((spec_Together.f k a0_0 a0_1 l0_2).bind fun t237 => (if t237 = true then ((spec_l2Free.f k a0_0 a0_1 l0_2).bind fun t238 => (if (t238.length : Int) ≥ 4 then ((spec_Cuts.f k a0_0 a0_1 l0_2).bind fun t241 => (some ((t241.length : Int) == 0))) else (some false))) else (some false))) = some r := h
 clear h
 replace H := Option.bind_eq_some_iff.mp H
 obtain ⟨t237, A20, H⟩ := H
 replace H : (if t237 = true then ((spec_l2Free.f k a0_0 a0_1 l0_2).bind fun t238 => (if (t238.length : Int) ≥ 4 then ((spec_Cuts.f k a0_0 a0_1 l0_2).bind fun t241 => (some ((t241.length : Int) == 0))) else (some false))) else (some false)) = some r := H
 have A2 := aM A20
 clear A20
 by_cases c3 : t237 = true
 {
 subst c3
 rw [if_pos rfl] at H
 replace H := Option.bind_eq_some_iff.mp H
 obtain ⟨t238, A40, H⟩ := H
 replace H : (if (t238.length : Int) ≥ 4 then ((spec_Cuts.f k a0_0 a0_1 l0_2).bind fun t241 => (some ((t241.length : Int) == 0))) else (some false)) = some r := H
 have A4 := aM A40
 clear A40
 by_cases c5 : (t238.length : Int) ≥ 4
 {
 rw [if_pos c5] at H
 have c5b0 := decide_eq_true c5
 have c5b1 : decide (4 ≤ t238.length) = true := decide_eq_true (by omega)
 clear c5
 replace H := Option.bind_eq_some_iff.mp H
 obtain ⟨t241, A60, H⟩ := H
 replace H : (some ((t241.length : Int) == 0)) = some r := H
 have A6 := aM A60
 clear A60
 obtain rfl := Option.some.inj H
 simp only [Option.some.injEq, Prod.mk.injEq] at H
 obtain ⟨rfl⟩ := H
 go_enter Try.func28, Try.ntmps28
 go_wp2_with (first | ((with_reducible refine gate_dst (N := 1) rfl ?_); (try (refine gate_guard (by rfl) ?_; dsimp only)); refine bx_ 1 #[.int .i64 a0_0, .int .i64 a0_1, .slice A0_2 l0_2.length c0_2] 43 ?_; intro gb236 hg w7 hbox hb; have n0_ := aM (below_step qz1 hb); have n1_ := aM (hbox); have n2_ := aM ((by rw [hg]; exact (below_size qz1) : w.heap.size ≤ gb236)); have n3_ := aM ((by rw [hg]; exact (below_size qz1) : w.heap.size ≤ gb236)); clear HB; have HB := n0_; have BK236 := n1_; have GW236 := n2_; have GE236 := n3_; clear n0_ n1_ n2_ n3_; clear hb hbox hg; obtain ⟨hcz8_0, hcz8_1, hcz8_2, hfz8_0, hfz8_1, hfz8_2⟩ := b6_ BK236.out) | ((with_reducible refine gate_callee (f := 54) rfl ?_); refine goesL_ (some 4) rfl rfl Try.func54 (by kernel_rfl) rfl #[.agg #[.int .i64 a0_0, .int .i64 a0_1, .slice A0_2 l0_2.length c0_2]] rfl qz3 ?_; (with_reducible refine (spec_Together.calls k a0_0 a0_1 _ _ l0_2 true _ ?side1 ?side2 A2.out).mono ?_); (case side1 => exact qz4); (case side2 => exact qz69); rintro e w9 ⟨rfl, hb⟩; refine ⟨_, rfl, ?_⟩; have n0_ := aM (blk_below (bk_ BK236.out) hb); have n1_ := aM (below_step qz27 hb); clear BK236 HB; have BK236 := n0_; have HB := n1_; clear n0_ n1_; (try clear hb); (try clear hb2); (try clear hk); (try clear hi); obtain ⟨hcz10_0, hcz10_1, hcz10_2, hfz10_0, hfz10_1, hfz10_2⟩ := b6_ BK236.out) | (go_at_call 55; (with_reducible refine (spec_l2Free.calls k a0_0 a0_1 _ _ l0_2 t238 _ ?side1 ?side2 A4.out).mono ?_); (case side1 => exact qz4); (case side2 => exact qz69); rintro e w11 ⟨v239, rfl, ho0, hb⟩; have n0_ := aM (Kd.R_lower ho0 (below_size qz27)); have n1_ := aM (blk_below (bk_ BK236.out) hb); have n2_ := aM (below_step qz27 hb); clear BK236 HB; have HO240 := n0_; have BK236 := n1_; have HB := n2_; clear n0_ n1_ n2_; (try clear hb); (try clear hb2); (try clear hk); (try clear hi); (try clear ho0); obtain ⟨Ao12, co12, eo12⟩ := Kd.R_slice HO240.out; subst eo12; obtain ⟨hcz13_0, hcz13_1, hcz13_2, hfz13_0, hfz13_1, hfz13_2⟩ := b6_ BK236.out) | (go_at_call 56; (with_reducible refine (spec_Cuts.calls k a0_0 a0_1 _ _ l0_2 t241 _ ?side1 ?side2 A6.out).mono ?_); (case side1 => exact qz4); (case side2 => exact qz69); rintro e w14 ⟨v242, rfl, ho0, hb⟩; have n0_ := aM (Kd.R_elder' (rr_ HO240.out) (Kd.R_base ho0) hb); have n1_ := aM (Kd.R_lower (Kd.R_new' ho0 (Kd.R_lt (rr_ HO240.out))) (below_size qz27)); have n2_ := aM (blk_below (bk_ BK236.out) hb); have n3_ := aM (below_step qz27 hb); clear HO240 BK236 HB; have HO240 := n0_; have HO243 := n1_; have BK236 := n2_; have HB := n3_; clear n0_ n1_ n2_ n3_; (try clear hb); (try clear hb2); (try clear hk); (try clear hi); (try clear ho0); obtain ⟨Ao15, co15, eo15⟩ := Kd.R_slice HO243.out; subst eo15))
 go_ret
 exact ⟨by first | rfl | (simp [errW_none, errW_some] <;> rfl) | (simp [*, errW_none, errW_some] <;> rfl), by repeat (first | (with_reducible first | exact HB.out | apply below_alloc | apply pw_below_drewN | apply below_drew1 | refine below_set ?_ GE236.out) | exact HB.out)⟩
 }
 {
 rw [if_neg c5] at H
 have c5b0 := decide_eq_false c5
 have c5b1 : decide (4 ≤ t238.length) = false := decide_eq_false (by omega)
 clear c5
 obtain rfl := Option.some.inj H
 simp only [Option.some.injEq, Prod.mk.injEq] at H
 obtain ⟨rfl⟩ := H
 go_enter Try.func28, Try.ntmps28
 go_wp2_with (first | ((with_reducible refine gate_dst (N := 1) rfl ?_); (try (refine gate_guard (by rfl) ?_; dsimp only)); refine bx_ 1 #[.int .i64 a0_0, .int .i64 a0_1, .slice A0_2 l0_2.length c0_2] 43 ?_; intro gb236 hg w16 hbox hb; have n0_ := aM (below_step qz1 hb); have n1_ := aM (hbox); have n2_ := aM ((by rw [hg]; exact (below_size qz1) : w.heap.size ≤ gb236)); have n3_ := aM ((by rw [hg]; exact (below_size qz1) : w.heap.size ≤ gb236)); clear HB; have HB := n0_; have BK236 := n1_; have GW236 := n2_; have GE236 := n3_; clear n0_ n1_ n2_ n3_; clear hb hbox hg; obtain ⟨hcz17_0, hcz17_1, hcz17_2, hfz17_0, hfz17_1, hfz17_2⟩ := b6_ BK236.out) | ((with_reducible refine gate_callee (f := 54) rfl ?_); refine goesL_ (some 4) rfl rfl Try.func54 (by kernel_rfl) rfl #[.agg #[.int .i64 a0_0, .int .i64 a0_1, .slice A0_2 l0_2.length c0_2]] rfl qz3 ?_; (with_reducible refine (spec_Together.calls k a0_0 a0_1 _ _ l0_2 true _ ?side1 ?side2 A2.out).mono ?_); (case side1 => exact qz4); (case side2 => exact qz69); rintro e w18 ⟨rfl, hb⟩; refine ⟨_, rfl, ?_⟩; have n0_ := aM (blk_below (bk_ BK236.out) hb); have n1_ := aM (below_step qz27 hb); clear BK236 HB; have BK236 := n0_; have HB := n1_; clear n0_ n1_; (try clear hb); (try clear hb2); (try clear hk); (try clear hi); obtain ⟨hcz19_0, hcz19_1, hcz19_2, hfz19_0, hfz19_1, hfz19_2⟩ := b6_ BK236.out) | (go_at_call 55; (with_reducible refine (spec_l2Free.calls k a0_0 a0_1 _ _ l0_2 t238 _ ?side1 ?side2 A4.out).mono ?_); (case side1 => exact qz4); (case side2 => exact qz69); rintro e w20 ⟨v239, rfl, ho0, hb⟩; have n0_ := aM (Kd.R_lower ho0 (below_size qz27)); have n1_ := aM (blk_below (bk_ BK236.out) hb); have n2_ := aM (below_step qz27 hb); clear BK236 HB; have HO240 := n0_; have BK236 := n1_; have HB := n2_; clear n0_ n1_ n2_; (try clear hb); (try clear hb2); (try clear hk); (try clear hi); (try clear ho0); obtain ⟨Ao21, co21, eo21⟩ := Kd.R_slice HO240.out; subst eo21))
 go_ret
 exact ⟨by first | rfl | (simp [errW_none, errW_some] <;> rfl) | (simp [*, errW_none, errW_some] <;> rfl), by repeat (first | (with_reducible first | exact HB.out | apply below_alloc | apply pw_below_drewN | apply below_drew1 | refine below_set ?_ GE236.out) | exact HB.out)⟩
 }
 }
 {
 replace c3 := Bool.eq_false_iff.mpr c3
 subst c3
 rw [if_neg (show ¬ (false = true) by decide)] at H
 obtain rfl := Option.some.inj H
 simp only [Option.some.injEq, Prod.mk.injEq] at H
 obtain ⟨rfl⟩ := H
 go_enter Try.func28, Try.ntmps28
 go_wp2_with (first | ((with_reducible refine gate_dst (N := 1) rfl ?_); (try (refine gate_guard (by rfl) ?_; dsimp only)); refine bx_ 1 #[.int .i64 a0_0, .int .i64 a0_1, .slice A0_2 l0_2.length c0_2] 43 ?_; intro gb236 hg w22 hbox hb; have n0_ := aM (below_step qz1 hb); have n1_ := aM (hbox); have n2_ := aM ((by rw [hg]; exact (below_size qz1) : w.heap.size ≤ gb236)); have n3_ := aM ((by rw [hg]; exact (below_size qz1) : w.heap.size ≤ gb236)); clear HB; have HB := n0_; have BK236 := n1_; have GW236 := n2_; have GE236 := n3_; clear n0_ n1_ n2_ n3_; clear hb hbox hg; obtain ⟨hcz23_0, hcz23_1, hcz23_2, hfz23_0, hfz23_1, hfz23_2⟩ := b6_ BK236.out) | ((with_reducible refine gate_callee (f := 54) rfl ?_); refine goesL_ (some 4) rfl rfl Try.func54 (by kernel_rfl) rfl #[.agg #[.int .i64 a0_0, .int .i64 a0_1, .slice A0_2 l0_2.length c0_2]] rfl qz3 ?_; (with_reducible refine (spec_Together.calls k a0_0 a0_1 _ _ l0_2 false _ ?side1 ?side2 A2.out).mono ?_); (case side1 => exact qz4); (case side2 => exact qz69); rintro e w24 ⟨rfl, hb⟩; refine ⟨_, rfl, ?_⟩; have n0_ := aM (blk_below (bk_ BK236.out) hb); have n1_ := aM (below_step qz27 hb); clear BK236 HB; have BK236 := n0_; have HB := n1_; clear n0_ n1_; (try clear hb); (try clear hb2); (try clear hk); (try clear hi)))
 go_ret
 exact ⟨by first | rfl | (simp [errW_none, errW_some] <;> rfl) | (simp [*, errW_none, errW_some] <;> rfl), by repeat (first | (with_reducible first | exact HB.out | apply below_alloc | apply pw_below_drewN | apply below_drew1 | refine below_set ?_ GE236.out) | exact HB.out)⟩

 }
/-! ### spec_l1Int: function 48 -/
def spec_l1Int.f (s0_0 : List Int) (s0_1 : Int) (s0_2 : Int) (l1 : List Int) : Option (Int × Int × Int) := (spec_l1Below.f s0_0 s0_1 s0_2 (l1.length : Int)).bind fun bt244 => (if 0 ≤ bt244.1 then (if bt244.1 < (l1.length : Int) then (some (rd l1 bt244.1, bt244.2.1, bt244.2.2)) else (none)) else (none))
set_option maxHeartbeats 8000000 in
set_option maxRecDepth 100000 in
theorem spec_l1Int.calls (g : Nat) (s0_0 : List Int) (s0_1 : Int) (s0_2 : Int) (A1 : Option Addr) (c1 : Nat) (l1 : List Int) (r1 : Int) (r2 : Int) (r3 : Int) (w0 w : World) (hI : IsS77 w0 w g s0_0 s0_1 s0_2) (hB : Below w0.heap.size w0 w) (hr1 : Kd.C (Kd.int .i64) w A1 l1.length l1) (hc1 : l1.length ≤ c1) (hf1 : ∀ ad, A1 = some ad → 0 < l1.length → ad.block ≠ g) (h : spec_l1Int.f s0_0 s0_1 s0_2 l1 = some (r1, r2, r3)) :
  Calls Try.prog 48 #[.pointer (some ⟨g, 0, none⟩), .slice A1 l1.length c1] w fun e w' => e = .returned (.int .i64 r1) ∧ IsS77 w0 w' g s0_0 r2 r3 ∧ Below w0.heap.size w0 w' ∧ KeepBut w w' g none := by
 have HR1 := aM hr1
 have HC1 := aM hc1
 clear hr1 hc1
 have HI0 := aM hI
 have HK := aM (KeepBut.refl w g none)
 have HL := aM hB.size
 clear hI
 have HW0 := aM hB.size
 have HB := aM hB
 clear hB
 have H : ((spec_l1Below.f s0_0 s0_1 s0_2 (l1.length : Int)).bind fun bt244 => (if 0 ≤ bt244.1 then (if bt244.1 < (l1.length : Int) then (some (rd l1 bt244.1, bt244.2.1, bt244.2.2)) else (none)) else (none))) = some (r1, r2, r3) := h
 clear h
 replace H := Option.bind_eq_some_iff.mp H
 obtain ⟨⟨t244, t245, t246⟩, A30, H⟩ := H
 replace H : (if 0 ≤ t244 then (if t244 < (l1.length : Int) then (some (rd l1 t244, t245, t246)) else (none)) else (none)) = some (r1, r2, r3) := H
 have A3 := aM A30
 clear A30
 by_cases c4 : 0 ≤ t244
 {
 rw [if_pos c4] at H
 have c4b0 := decide_eq_true c4
 clear c4
 by_cases c5 : t244 < (l1.length : Int)
 {
 rw [if_pos c5] at H
 have c5b0 := decide_eq_true c5
 clear c5
 simp only [Option.some.injEq, Prod.mk.injEq] at H
 obtain ⟨rfl, rfl, rfl⟩ := H
 go_enter Try.func48, Try.ntmps48
 go_wp2_with (first | ((with_reducible refine gate_callee (f := 68) rfl ?_); refine goesL_ (some 9) rfl rfl Try.func68 (by kernel_rfl) rfl #[.pointer (some ⟨g, 0, none⟩), .int .i64 (l1.length : Int)] rfl qz3 ?_; (with_reducible refine (spec_l1Below.calls g s0_0 s0_1 s0_2 (l1.length : Int) t244 t245 t246 w0 _ ?side1 ?side2 A3.out).mono ?_); (case side1 => exact qz30); (case side2 => exact qz29); rintro e w6 ⟨rfl, hi, hb, hk⟩; refine ⟨_, rfl, ?_⟩; have n0_ := aM (KeepBut.trans qz7 hk (.inl rfl)); have n1_ := aM (hb); have n2_ := aM (hi); clear HK HB HI0; have HK := n0_; have HB := n1_; have HI0 := n2_; clear n0_ n1_ n2_; (try clear hb); (try clear hb2); (try clear hk); (try clear hi); have p247 : 0 ≤ (t244 : Int) := of_decide_eq_true qz2; have q247 : t244 < (l1.length : Int) := of_decide_eq_true qz2; obtain ⟨ad247, e247, hx247_0⟩ := Kd.at_int HR1.out t244 p247 q247; cases e247; replace hx247_0 := keep_cell HK.out hx247_0 (by first | (rw [add_block]; exact hf1 _ rfl (by omega)) | exact hf1 _ rfl (by omega) | exact hf1 ad247 rfl (by omega)); replace p247 := eq_true p247; replace q247 := eq_true q247))
 go_ret
 exact ⟨by first | rfl | (simp [errW_none, errW_some] <;> rfl) | (simp [*, errW_none, errW_some] <;> rfl), by repeat (first | (with_reducible first | exact HI0.out | apply IsS77.alloc | apply IsS77.drewN | apply IsS77.drew | apply IsS77.set_1 | apply IsS77.set_2) | exact HI0.out), by repeat (first | (with_reducible first | exact HB.out | apply below_alloc | apply pw_below_drewN | apply below_drew1 | refine below_set ?_ (IsS77.ge HI0.out)) | exact HB.out), by repeat (first | (with_reducible first | exact HK.out | apply KeepBut.set_ | apply keep_drewN | apply keep_drew | apply keep_alloc) | exact HK.out)⟩
 }
 {
 rw [if_neg c5] at H
 exact absurd H (by simp)
 }
 }
 {
 rw [if_neg c4] at H
 exact absurd H (by simp)

 }
end Go.Proofs.Ytbebfhlejnidkaa.PFnSound
