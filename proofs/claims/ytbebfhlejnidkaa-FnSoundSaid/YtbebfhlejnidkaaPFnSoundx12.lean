-- Made by a program of this session out of the translation. Lean checks it.
import Derived.Test.YtbebfhlejnidkaaPFnSoundx0
import Derived.Test.YtbebfhlejnidkaaPFnSoundx11
namespace Go.Proofs.Ytbebfhlejnidkaa.PFnSound
open Go.RowKit Go.Proofs.YtbebfhlejnidkaaW.PrintWords Go.Proofs.YtbebfhlejnidkaaW.PrintLast Go.Proofs.YtbebfhlejnidkaaW.PrintMore
attribute [local go_sem] max2_int min2_int max_two min_two max_three min_three max_four min_four   -- for this text's walks alone
set_option linter.unusedVariables false
set_option linter.unusedSimpArgs false

/-! ### impl_near: function 58 -/
def impl_near.l0 : Nat → Bool → List Int → List Int → Int → Int → Int → Int → List Int → Option (List Int)
 | 0, _, _, _, _, _, _, _, _ => none
 | k + 1, x2, x7, x13, x14, x15, x426000, x426001, x426002 => if x15 < x14 then (if 0 ≤ x15 then (if x15 < (x13.length : Int) then (if 0 ≤ (rd x13 x15) then (if (rd x13 x15) < (x426002.length : Int) then (if (rd x426002 (rd x13 x15)) = 0 then (impl_near.l0 k x2 x7 x13 x14 (wrap64 (x15 + 1)) x426000 x426001 x426002) else (if x2 = true then (if (rd x426002 (rd x13 x15)) = 2 then (impl_near.l0 k x2 x7 x13 x14 (wrap64 (x15 + 1)) x426000 x426001 x426002) else (if x7.length < 17592186044416 then (impl_near.l0 k x2 (x7 ++ [rd x13 x15]) x13 x14 (wrap64 (x15 + 1)) x426000 x426001 x426002) else (none))) else (if x7.length < 17592186044416 then (impl_near.l0 k x2 (x7 ++ [rd x13 x15]) x13 x14 (wrap64 (x15 + 1)) x426000 x426001 x426002) else (none)))) else (none)) else (none)) else (none)) else (none)) else (some x7)
def impl_near.f (k : Nat) (a0_0 : Int) (a0_1 : Int) (l0_2 : List Int) (a1 : Int) (a2 : Bool) : Option (List Int) := (impl_beside.f k a0_0 a0_1 l0_2 a1).bind fun t426 => (impl_near.l0 k a2 ([] : List Int) t426 (t426.length : Int) 0 a0_0 a0_1 l0_2)
theorem impl_near.mono_l : ∀ k, (∀ y0 y1 y2 y3 y4 y5 y6 y7, LeO (impl_near.l0 k y0 y1 y2 y3 y4 y5 y6 y7) (impl_near.l0 (k + 1) y0 y1 y2 y3 y4 y5 y6 y7))
 | 0 => fun _ _ _ _ _ _ _ _ r h => by simp [impl_near.l0] at h
 | k + 1 => by
  have ih0 := impl_near.mono_l k
  {
  intro y0 y1 y2 y3 y4 y5 y6 y7
  unfold impl_near.l0
  repeat' first
  | (with_reducible first | exact ih0 _ _ _ _ _ _ _ _ | exact impl_beside.mono _ _ _ _ _ | exact LeO.refl _ | exact LeO.none _ | refine LeO.ite ?_ ?_ | refine LeO.bind ?_ (fun _ => ?_))
  | exact ih0 _ _ _ _ _ _ _ _
  | exact impl_beside.mono _ _ _ _ _
  | exact LeO.none _
  | refine LeO.ite ?_ ?_
  | refine LeO.bind ?_ (fun _ => ?_)
  }
theorem impl_near.mono : ∀ a0 a1 a2 a3 a4 k, LeO (impl_near.f k a0 a1 a2 a3 a4) (impl_near.f (k + 1) a0 a1 a2 a3 a4) := by
 intro a0 a1 a2 a3 a4 k
 have ih0 := impl_near.mono_l k
 unfold impl_near.f
 repeat' first
  | (with_reducible first | exact ih0 _ _ _ _ _ _ _ _ | exact impl_beside.mono _ _ _ _ _ | exact LeO.refl _ | exact LeO.none _ | refine LeO.ite ?_ ?_ | refine LeO.bind ?_ (fun _ => ?_))
  | exact ih0 _ _ _ _ _ _ _ _
  | exact impl_beside.mono _ _ _ _ _
  | exact LeO.none _
  | refine LeO.ite ?_ ?_
  | refine LeO.bind ?_ (fun _ => ?_)
set_option maxHeartbeats 8000000 in
set_option maxRecDepth 100000 in
theorem impl_near.calls (k : Nat) (a0_0 : Int) (a0_1 : Int) (A0_2 : Option Addr) (c0_2 : Nat) (l0_2 : List Int) (a1 : Int) (a2 : Bool) (r : List Int) (w : World) (hr0_2 : Kd.C (Kd.int .i64) w A0_2 l0_2.length l0_2) (hc0_2 : l0_2.length ≤ c0_2) (h : impl_near.f k a0_0 a0_1 l0_2 a1 a2 = some r) :
  Calls Try.prog 58 #[.agg #[.int .i64 a0_0, .int .i64 a0_1, .slice A0_2 l0_2.length c0_2], .int .i64 a1, .bool a2] w fun e w' => ∃ v0_ : Value, e = .returned (v0_) ∧ Kd.R (Kd.int .i64) 3 w' w.heap.size (fun _ => True) v0_ r ∧ Below w.heap.size w w' := by
 have hu43 := Try.underlying43
 have HR0_2 := aM hr0_2
 have HC0_2 := aM hc0_2
 clear hr0_2 hc0_2
 have HB := aM (Below.refl w.heap.size w)
 have H : ((impl_beside.f k a0_0 a0_1 l0_2 a1).bind fun t426 => (impl_near.l0 k a2 ([] : List Int) t426 (t426.length : Int) 0 a0_0 a0_1 l0_2)) = some r := h
 clear h
 replace H := Option.bind_eq_some_iff.mp H
 obtain ⟨t426, A40, H⟩ := H
 replace H : (impl_near.l0 k a2 ([] : List Int) t426 (t426.length : Int) 0 a0_0 a0_1 l0_2) = some r := H
 have A4 := aM A40
 clear A40
 have H' := aM H
 clear H
 go_enter Try.func58, Try.ntmps58
 go_wp2_with (first | ((with_reducible refine gate_dst (N := 3) rfl ?_); refine bx_ 3 #[.int .i64 a0_0, .int .i64 a0_1, .slice A0_2 l0_2.length c0_2] 43 ?_; intro gb425 hg w5 hbox hb; have n0_ := aM (below_step qz1 hb); have n1_ := aM (hbox); have n2_ := aM ((by rw [hg]; exact (below_size qz1) : w.heap.size ≤ gb425)); have n3_ := aM ((by rw [hg]; exact (below_size qz1) : w.heap.size ≤ gb425)); clear HB; have HB := n0_; have BK425 := n1_; have GW425 := n2_; have GE425 := n3_; clear n0_ n1_ n2_ n3_; clear hb hbox hg; obtain ⟨hcz6_0, hcz6_1, hcz6_2, hfz6_0, hfz6_1, hfz6_2⟩ := b6_ BK425.out) | ((with_reducible refine gate_callee (f := 72) rfl ?_); refine goesL_ (some 13) rfl rfl Try.func72 (by kernel_rfl) rfl #[.agg #[.int .i64 a0_0, .int .i64 a0_1, .slice A0_2 l0_2.length c0_2], .int .i64 a1] rfl qz3 ?_; (with_reducible refine (impl_beside.calls k a0_0 a0_1 _ _ l0_2 a1 t426 _ ?side1 ?side2 A4.out).mono ?_); (case side1 => exact qz4); (case side2 => exact qz69); rintro e w7 ⟨v427, rfl, ho0, hb⟩; refine ⟨_, rfl, ?_⟩; have n0_ := aM (Kd.R_lower ho0 (below_size qz40)); have n1_ := aM (blk_below (bk_ BK425.out) hb); have n2_ := aM (below_step qz40 hb); clear BK425 HB; have HO428 := n0_; have BK425 := n1_; have HB := n2_; clear n0_ n1_ n2_; (try clear hb); (try clear hb2); (try clear hk); (try clear hi); (try clear ho0); obtain ⟨Ao8, co8, eo8⟩ := Kd.R_slice HO428.out; subst eo8))
 go_loopg [7, 15] k (fun kq v7 v15 w' => ∃ (x7_1 : List Int) (x15_1 : Int), v15 = .int .i64 x15_1 ∧ Aside0 (impl_near.l0 kq a2 x7_1 t426 (t426.length : Int) x15_1 a0_0 a0_1 l0_2 = some r) ∧ Aside0 (kq ≤ k) ∧ Aside0 (Kd.R (Kd.int .i64) 3 w' w.heap.size (fun k_ => some k_ ≠ ((.slice Ao8 t426.length co8) : Value).ownBlock) v7 x7_1) ∧ Aside0 (Kd.R (Kd.int .i64) 3 w' w.heap.size (fun k_ => some k_ ≠ (v7 : Value).ownBlock) (.slice Ao8 t426.length co8) t426) ∧ Aside0 (w'.heap[gb425]? = some (.cells #[.int .i64 a0_0, .int .i64 a0_1, (.slice A0_2 l0_2.length c0_2)] 43 (0, 0))) ∧ Aside0 (Below w.heap.size w w'))
 case atStart => exact ⟨(([] : List Int)), (0), qz5, H', ⟨Nat.le_refl _⟩, ⟨by first | exact Kd.R_nil _ _ _ _ _ | exact Kd.N_nil _ _ _ _ _ | exact Kd.V_nil _ _ _ _ _ | exact Kd.Q_nil _ _ _ _ _ | exact Kd.S_nil _ _ _ _ _⟩, ⟨by (with_reducible repeat (first | apply Kd.R_alloc | apply Kd.R_drewN | apply Kd.R_drew)); exact Kd.R_mono HO428.out (fun _ hk => (by simp [Value.ownBlock]))⟩, ⟨bk_ BK425.out⟩, ⟨by repeat (first | (with_reducible first | exact HB.out | apply below_alloc | apply pw_below_drewN | apply below_drew1 | refine below_set ?_ GE425.out) | exact HB.out)⟩⟩
 case round =>
  clear H'
  try clear p2
  try clear c5
  try clear c7
  try clear hcz6_0
  try clear hcz6_1
  try clear hcz6_2
  try clear hfz6_0
  try clear hfz6_1
  try clear hfz6_2
  obtain ⟨x7_1, x15_1, rfl, HA, HK1, HO_7, HO_13, BK425, HB⟩ := hrel
  cases gk with
  | zero => exact absurd HA.out (by simp [impl_near.l0])
  | succ k1 =>
   have H := HA.out
   clear HA
   simp only [impl_near.l0] at H
   by_cases c9 : x15_1 < (t426.length : Int)
   {
   rw [if_pos c9] at H
   have c9b0 := decide_eq_true c9
   clear c9
   by_cases c10 : 0 ≤ x15_1
   {
   rw [if_pos c10] at H
   have c10b0 := decide_eq_true c10
   clear c10
   by_cases c11 : x15_1 < (t426.length : Int)
   {
   rw [if_pos c11] at H
   have c11b0 := decide_eq_true c11
   clear c11
   by_cases c12 : 0 ≤ (rd t426 x15_1)
   {
   rw [if_pos c12] at H
   have c12b0 := decide_eq_true c12
   clear c12
   by_cases c13 : (rd t426 x15_1) < (l0_2.length : Int)
   {
   rw [if_pos c13] at H
   have c13b0 := decide_eq_true c13
   clear c13
   by_cases c14 : (rd l0_2 (rd t426 x15_1)) = 0
   {
   rw [if_pos c14] at H
   have c14b0 := beq_iff_eq.mpr c14
   have c14b1 := bne_eq_false_iff_eq.mpr c14
   clear c14
   have H' := aM H
   clear H
   have p429 : 0 ≤ (x15_1 : Int) := of_decide_eq_true qz2
   have q429 : x15_1 < (t426.length : Int) := of_decide_eq_true qz2
   obtain ⟨ad429, e429, hx429_0⟩ := Kd.at_int (Kd.R_reads' HO_13.out).2.2 x15_1 p429 q429
   cases e429
   replace p429 := eq_true p429
   replace q429 := eq_true q429
   obtain ⟨hcz15_0, hcz15_1, hcz15_2, hfz15_0, hfz15_1, hfz15_2⟩ := b6_ BK425.out
   have p430 : 0 ≤ ((rd t426 x15_1) : Int) := of_decide_eq_true qz2
   have q430 : (rd t426 x15_1) < (l0_2.length : Int) := of_decide_eq_true qz2
   obtain ⟨ad430, e430, hx430_0⟩ := Kd.at_int HR0_2.out (rd t426 x15_1) p430 q430
   cases e430
   replace hx430_0 := pw_cell_below HB.out hx430_0
   replace p430 := eq_true p430
   replace q430 := eq_true q430
   go_wp2
   go_roundg k1
   case measure => have := HK1.out; omega
   case rel => exact ⟨(x7_1), (wrap64 (x15_1 + 1)), qz5, H', ⟨by have := HK1.out; omega⟩, ⟨rm_ HO_7.out⟩, ⟨rm_ HO_13.out⟩, ⟨bk_ BK425.out⟩, ⟨by repeat (first | (with_reducible first | exact HB.out | apply below_alloc | apply pw_below_drewN | apply below_drew1 | refine below_set ?_ GE425.out) | exact HB.out)⟩⟩
   }
   {
   rw [if_neg c14] at H
   have c14b0 := beq_eq_false_iff_ne.mpr c14
   have c14b1 := bne_iff_ne.mpr c14
   by_cases c16 : a2 = true
   {
   subst c16
   rw [if_pos rfl] at H
   by_cases c17 : (rd l0_2 (rd t426 x15_1)) = 2
   {
   rw [if_pos c17] at H
   have c17b0 := beq_iff_eq.mpr c17
   have c17b1 := bne_eq_false_iff_eq.mpr c17
   clear c17
   have H' := aM H
   clear H
   have p429 : 0 ≤ (x15_1 : Int) := of_decide_eq_true qz2
   have q429 : x15_1 < (t426.length : Int) := of_decide_eq_true qz2
   obtain ⟨ad429, e429, hx429_0⟩ := Kd.at_int (Kd.R_reads' HO_13.out).2.2 x15_1 p429 q429
   cases e429
   replace p429 := eq_true p429
   replace q429 := eq_true q429
   obtain ⟨hcz18_0, hcz18_1, hcz18_2, hfz18_0, hfz18_1, hfz18_2⟩ := b6_ BK425.out
   have p430 : 0 ≤ ((rd t426 x15_1) : Int) := of_decide_eq_true qz2
   have q430 : (rd t426 x15_1) < (l0_2.length : Int) := of_decide_eq_true qz2
   obtain ⟨ad430, e430, hx430_0⟩ := Kd.at_int HR0_2.out (rd t426 x15_1) p430 q430
   cases e430
   replace hx430_0 := pw_cell_below HB.out hx430_0
   replace p430 := eq_true p430
   replace q430 := eq_true q430
   go_wp2
   go_roundg k1
   case measure => have := HK1.out; omega
   case rel => exact ⟨(x7_1), (wrap64 (x15_1 + 1)), qz5, H', ⟨by have := HK1.out; omega⟩, ⟨rm_ HO_7.out⟩, ⟨rm_ HO_13.out⟩, ⟨bk_ BK425.out⟩, ⟨by repeat (first | (with_reducible first | exact HB.out | apply below_alloc | apply pw_below_drewN | apply below_drew1 | refine below_set ?_ GE425.out) | exact HB.out)⟩⟩
   }
   {
   rw [if_neg c17] at H
   have c17b0 := beq_eq_false_iff_ne.mpr c17
   have c17b1 := bne_iff_ne.mpr c17
   by_cases c19 : x7_1.length < 17592186044416
   {
   rw [if_pos c19] at H
   have LMc19 := aM c19
   clear c19
   obtain ⟨y431, hy431⟩ : ∃ y_ : List Int, y_ = (x7_1 ++ [rd t426 x15_1]) := ⟨_, rfl⟩
   replace H : (impl_near.l0 k1 true y431 t426 (t426.length : Int) (wrap64 (x15_1 + 1)) a0_0 a0_1 l0_2) = some r := by first | (rw [hy431]; with_reducible exact H) | (have H2_ := (Option.bind_some _ _).symm.trans H; rw [hy431]; with_reducible exact H2_) | (have H2_ := (Option.bind_some _ _).symm.trans H; with_reducible exact H2_) | with_reducible exact H | (rw [hy431]; exact H) | exact H
   have Ny431 := aM hy431
   clear hy431
   have H' := aM H
   clear H
   have p429 : 0 ≤ (x15_1 : Int) := of_decide_eq_true qz2
   have q429 : x15_1 < (t426.length : Int) := of_decide_eq_true qz2
   obtain ⟨ad429, e429, hx429_0⟩ := Kd.at_int (Kd.R_reads' HO_13.out).2.2 x15_1 p429 q429
   cases e429
   replace p429 := eq_true p429
   replace q429 := eq_true q429
   obtain ⟨hcz20_0, hcz20_1, hcz20_2, hfz20_0, hfz20_1, hfz20_2⟩ := b6_ BK425.out
   have p430 : 0 ≤ ((rd t426 x15_1) : Int) := of_decide_eq_true qz2
   have q430 : (rd t426 x15_1) < (l0_2.length : Int) := of_decide_eq_true qz2
   obtain ⟨ad430, e430, hx430_0⟩ := Kd.at_int HR0_2.out (rd t426 x15_1) p430 q430
   cases e430
   replace hx430_0 := pw_cell_below HB.out hx430_0
   replace p430 := eq_true p430
   replace q430 := eq_true q430
   go_wp2_with (first | ((with_reducible refine gate_builtin (b := .append) (xs := #[.tmp 34, .tmp 36]) rfl ?_); at_builtin; refine Kd.R_append (Kd.int .i64) (w0 := w) w.heap.size rfl (.tmp 34) (.tmp 36) 24 3 (.int .i64 0) 8 rfl Try.underlying24 info3 rfl (by decide) (by omega) u7 x7_1 (rd t426 x15_1) [.int .i64 (rd t426 x15_1)] (fun k_ => some k_ ≠ (.slice (some ad429) t426.length co8 : Value).ownBlock) (fun _ => False) rfl rfl ?aP (fun _ hk => hk.elim) ?aF ?aO ?aB ?aS ?aL ?_; (case aP => exact rfl); (case aB => exact qz40); (case aF => exact (fun k_ hk => Kd.fresh' (Kd.R_lt (rr_ HO_13.out)) k_ hk)); (case aO => exact (rr_ HO_7.out)); (case aS => exact (below_size qz40)); (case aL => have := LMc19.out; omega); intro v432 w21 ho hb hg hat; rw [← Ny431.out] at ho; have n0_ := aM (Kd.R_after (ok := (fun _ => True)) (by (with_reducible repeat (first | apply Kd.R_alloc | apply Kd.R_drewN | apply Kd.R_drew)); exact Kd.R_mono HO_13.out (fun _ hk => ⟨trivial, hk⟩)) hg hat); have n1_ := aM (blk_grown (bk_ BK425.out) hg (Kd.R_ne HO_7.out BK425.out (by decide))); have n2_ := aM (hb); have n3_ := aM (ho); clear HO_13 BK425 HB HO_7; have HO_13 := n0_; have BK425 := n1_; have HB := n2_; have HO433 := n3_; clear n0_ n1_ n2_ n3_; clear ho hb hg hat))
   go_roundg k1
   case measure => have := HK1.out; omega
   case rel => exact ⟨(y431), (wrap64 (x15_1 + 1)), qz5, H', ⟨by have := HK1.out; omega⟩, ⟨rm_ HO433.out⟩, ⟨by (with_reducible repeat (first | apply Kd.R_alloc | apply Kd.R_drewN | apply Kd.R_drew)); exact Kd.R_mono HO_13.out (fun _ hk => hk.2)⟩, ⟨bk_ BK425.out⟩, ⟨by repeat (first | (with_reducible first | exact HB.out | apply below_alloc | apply pw_below_drewN | apply below_drew1 | refine below_set ?_ GE425.out) | exact HB.out)⟩⟩
   }
   {
   rw [if_neg c19] at H
   exact absurd H (by simp)
   }
   }
   }
   {
   replace c16 := Bool.eq_false_iff.mpr c16
   subst c16
   rw [if_neg (show ¬ (false = true) by decide)] at H
   by_cases c22 : x7_1.length < 17592186044416
   {
   rw [if_pos c22] at H
   have LMc22 := aM c22
   clear c22
   obtain ⟨y434, hy434⟩ : ∃ y_ : List Int, y_ = (x7_1 ++ [rd t426 x15_1]) := ⟨_, rfl⟩
   replace H : (impl_near.l0 k1 false y434 t426 (t426.length : Int) (wrap64 (x15_1 + 1)) a0_0 a0_1 l0_2) = some r := by first | (rw [hy434]; with_reducible exact H) | (have H2_ := (Option.bind_some _ _).symm.trans H; rw [hy434]; with_reducible exact H2_) | (have H2_ := (Option.bind_some _ _).symm.trans H; with_reducible exact H2_) | with_reducible exact H | (rw [hy434]; exact H) | exact H
   have Ny434 := aM hy434
   clear hy434
   have H' := aM H
   clear H
   have p429 : 0 ≤ (x15_1 : Int) := of_decide_eq_true qz2
   have q429 : x15_1 < (t426.length : Int) := of_decide_eq_true qz2
   obtain ⟨ad429, e429, hx429_0⟩ := Kd.at_int (Kd.R_reads' HO_13.out).2.2 x15_1 p429 q429
   cases e429
   replace p429 := eq_true p429
   replace q429 := eq_true q429
   obtain ⟨hcz23_0, hcz23_1, hcz23_2, hfz23_0, hfz23_1, hfz23_2⟩ := b6_ BK425.out
   have p430 : 0 ≤ ((rd t426 x15_1) : Int) := of_decide_eq_true qz2
   have q430 : (rd t426 x15_1) < (l0_2.length : Int) := of_decide_eq_true qz2
   obtain ⟨ad430, e430, hx430_0⟩ := Kd.at_int HR0_2.out (rd t426 x15_1) p430 q430
   cases e430
   replace hx430_0 := pw_cell_below HB.out hx430_0
   replace p430 := eq_true p430
   replace q430 := eq_true q430
   go_wp2_with (first | ((with_reducible refine gate_builtin (b := .append) (xs := #[.tmp 34, .tmp 36]) rfl ?_); at_builtin; refine Kd.R_append (Kd.int .i64) (w0 := w) w.heap.size rfl (.tmp 34) (.tmp 36) 24 3 (.int .i64 0) 8 rfl Try.underlying24 info3 rfl (by decide) (by omega) u7 x7_1 (rd t426 x15_1) [.int .i64 (rd t426 x15_1)] (fun k_ => some k_ ≠ (.slice (some ad429) t426.length co8 : Value).ownBlock) (fun _ => False) rfl rfl ?aP (fun _ hk => hk.elim) ?aF ?aO ?aB ?aS ?aL ?_; (case aP => exact rfl); (case aB => exact qz40); (case aF => exact (fun k_ hk => Kd.fresh' (Kd.R_lt (rr_ HO_13.out)) k_ hk)); (case aO => exact (rr_ HO_7.out)); (case aS => exact (below_size qz40)); (case aL => have := LMc22.out; omega); intro v435 w24 ho hb hg hat; rw [← Ny434.out] at ho; have n0_ := aM (Kd.R_after (ok := (fun _ => True)) (by (with_reducible repeat (first | apply Kd.R_alloc | apply Kd.R_drewN | apply Kd.R_drew)); exact Kd.R_mono HO_13.out (fun _ hk => ⟨trivial, hk⟩)) hg hat); have n1_ := aM (blk_grown (bk_ BK425.out) hg (Kd.R_ne HO_7.out BK425.out (by decide))); have n2_ := aM (hb); have n3_ := aM (ho); clear HO_13 BK425 HB HO_7; have HO_13 := n0_; have BK425 := n1_; have HB := n2_; have HO436 := n3_; clear n0_ n1_ n2_ n3_; clear ho hb hg hat))
   go_roundg k1
   case measure => have := HK1.out; omega
   case rel => exact ⟨(y434), (wrap64 (x15_1 + 1)), qz5, H', ⟨by have := HK1.out; omega⟩, ⟨rm_ HO436.out⟩, ⟨by (with_reducible repeat (first | apply Kd.R_alloc | apply Kd.R_drewN | apply Kd.R_drew)); exact Kd.R_mono HO_13.out (fun _ hk => hk.2)⟩, ⟨bk_ BK425.out⟩, ⟨by repeat (first | (with_reducible first | exact HB.out | apply below_alloc | apply pw_below_drewN | apply below_drew1 | refine below_set ?_ GE425.out) | exact HB.out)⟩⟩
   }
   {
   rw [if_neg c22] at H
   exact absurd H (by simp)
   }
   }
   }
   }
   {
   rw [if_neg c13] at H
   exact absurd H (by simp)
   }
   }
   {
   rw [if_neg c12] at H
   exact absurd H (by simp)
   }
   }
   {
   rw [if_neg c11] at H
   exact absurd H (by simp)
   }
   }
   {
   rw [if_neg c10] at H
   exact absurd H (by simp)
   }
   }
   {
   rw [if_neg c9] at H
   have c9b0 := decide_eq_false c9
   clear c9
   obtain rfl := Option.some.inj H
   simp only [Option.some.injEq, Prod.mk.injEq] at H
   obtain ⟨rfl⟩ := H
   go_wp2
   go_ret
   exact ⟨_, by first | rfl | (simp [errW_none, errW_some] <;> rfl) | (simp [*, errW_none, errW_some] <;> rfl), by (with_reducible repeat (first | apply Kd.R_alloc | apply Kd.R_drewN | apply Kd.R_drew)); exact Kd.R_mono HO_7.out (fun _ hk => trivial), by repeat (first | (with_reducible first | exact HB.out | apply below_alloc | apply pw_below_drewN | apply below_drew1 | refine below_set ?_ GE425.out) | exact HB.out)⟩

   }
end Go.Proofs.Ytbebfhlejnidkaa.PFnSound
