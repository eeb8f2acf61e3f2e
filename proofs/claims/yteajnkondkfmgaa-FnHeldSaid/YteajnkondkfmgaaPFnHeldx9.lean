-- Made by a program of this session out of the translation. Lean checks it.
import Derived.Test.YteajnkondkfmgaaPFnHeldx0
import Derived.Test.YteajnkondkfmgaaPFnHeldx8
namespace Go.Proofs.Yteajnkondkfmgaa.PFnHeld
open Go.RowKit Go.Proofs.YteajnkondkfmgaaW.PrintWords Go.Proofs.YteajnkondkfmgaaW.PrintLast Go.Proofs.YteajnkondkfmgaaW.PrintMore
attribute [local go_sem] max2_int min2_int max_two min_two max_three min_three max_four min_four   -- for this text's walks alone
set_option linter.unusedVariables false
set_option linter.unusedSimpArgs false

/-! ### impl_StockOk: function 21 -/
mutual
def impl_StockOk.l0 : Nat → List (S79) → Int → Int → List (S79) → Option (Bool)
 | 0, _, _, _, _ => none
 | k + 1, x8, x9, x10, x280000 => if x10 < x9 then (if 0 ≤ x10 then (if x10 < (x8.length : Int) then ((impl_podOk.f k ((rd_T79 x8 x10).f0) ((rd_T79 x8 x10).f1) ((rd_T79 x8 x10).f2)).bind fun t282 => (if t282 = true then (if x10 > 0 then (if 0 ≤ (wrap64 (x10 - 1)) then (if (wrap64 (x10 - 1)) < (x280000.length : Int) then (impl_StockOk.j1 k x10 x8 x9 x10 (decide (((rd_T79 x280000 (wrap64 (x10 - 1))).f0) ≥ ((rd_T79 x8 x10).f0))) x280000 ((rd_T79 x8 x10).f0) ((rd_T79 x8 x10).f1) ((rd_T79 x8 x10).f2)) else (none)) else (none)) else (impl_StockOk.j1 k x10 x8 x9 x10 false x280000 ((rd_T79 x8 x10).f0) ((rd_T79 x8 x10).f1) ((rd_T79 x8 x10).f2))) else (impl_StockOk.j1 k x10 x8 x9 x10 true x280000 ((rd_T79 x8 x10).f0) ((rd_T79 x8 x10).f1) ((rd_T79 x8 x10).f2)))) else (none)) else (none)) else (some (decide ((x280000.length : Int) ≤ 12)))
def impl_StockOk.j1 : Nat → Int → List (S79) → Int → Int → Bool → List (S79) → Int → Int → List (S72) → Option (Bool)
 | 0, _, _, _, _, _, _, _, _, _ => none
 | k + 1, x3, x8, x9, x10, x33, x280000, x282000, x282001, x282002 => if x33 = true then (some false) else (if 0 ≤ x3 then (if x3 ≤ (x280000.length : Int) then ((some (x280000.take (x3 : Int).toNat : List (S79))).bind fun y284 => (impl_StockOk.l1 k x8 x9 x10 y284 (y284.length : Int) 0 x280000 x282000 x282001 x282002)) else (none)) else (none))
def impl_StockOk.l1 : Nat → List (S79) → Int → Int → List (S79) → Int → Int → List (S79) → Int → Int → List (S72) → Option (Bool)
 | 0, _, _, _, _, _, _, _, _, _, _ => none
 | k + 1, x8, x9, x10, x37, x38, x39, x280000, x282000, x282001, x282002 => if x39 < x38 then (if 0 ≤ x39 then (if x39 < (x37.length : Int) then (if ((rd_T79 x37 x39).f1) = x282001 then (some false) else (impl_StockOk.l1 k x8 x9 x10 x37 x38 (wrap64 (x39 + 1)) x280000 x282000 x282001 x282002)) else (none)) else (none)) else (impl_StockOk.l0 k x8 x9 (wrap64 (x10 + 1)) x280000)
end
def impl_StockOk.f (k : Nat) (l0_0 : List (S79)) : Option (Bool) := impl_StockOk.l0 k l0_0 (l0_0.length : Int) 0 l0_0
theorem impl_StockOk.mono_l : ∀ k, (∀ y0 y1 y2 y3, LeO (impl_StockOk.l0 k y0 y1 y2 y3) (impl_StockOk.l0 (k + 1) y0 y1 y2 y3)) ∧ (∀ y0 y1 y2 y3 y4 y5 y6 y7 y8, LeO (impl_StockOk.j1 k y0 y1 y2 y3 y4 y5 y6 y7 y8) (impl_StockOk.j1 (k + 1) y0 y1 y2 y3 y4 y5 y6 y7 y8)) ∧ (∀ y0 y1 y2 y3 y4 y5 y6 y7 y8 y9, LeO (impl_StockOk.l1 k y0 y1 y2 y3 y4 y5 y6 y7 y8 y9) (impl_StockOk.l1 (k + 1) y0 y1 y2 y3 y4 y5 y6 y7 y8 y9))
 | 0 => ⟨fun _ _ _ _ r h => by simp [impl_StockOk.l0] at h, fun _ _ _ _ _ _ _ _ _ r h => by simp [impl_StockOk.j1] at h, fun _ _ _ _ _ _ _ _ _ _ r h => by simp [impl_StockOk.l1] at h⟩
 | k + 1 => by
  obtain ⟨ih0, ih1, ih2⟩ := impl_StockOk.mono_l k
  refine ⟨?_, ?_, ?_⟩
  {
  intro y0 y1 y2 y3
  unfold impl_StockOk.l0
  repeat' first
  | (with_reducible first | exact ih0 _ _ _ _ | exact ih1 _ _ _ _ _ _ _ _ _ | exact ih2 _ _ _ _ _ _ _ _ _ _ | exact impl_podOk.mono _ _ _ _ | exact LeO.refl _ | exact LeO.none _ | refine LeO.ite ?_ ?_ | refine LeO.bind ?_ (fun _ => ?_))
  | exact ih0 _ _ _ _
  | exact ih1 _ _ _ _ _ _ _ _ _
  | exact ih2 _ _ _ _ _ _ _ _ _ _
  | exact impl_podOk.mono _ _ _ _
  | exact LeO.none _
  | refine LeO.ite ?_ ?_
  | refine LeO.bind ?_ (fun _ => ?_)
  }
  {
  intro y0 y1 y2 y3 y4 y5 y6 y7 y8
  unfold impl_StockOk.j1
  repeat' first
  | (with_reducible first | exact ih0 _ _ _ _ | exact ih1 _ _ _ _ _ _ _ _ _ | exact ih2 _ _ _ _ _ _ _ _ _ _ | exact impl_podOk.mono _ _ _ _ | exact LeO.refl _ | exact LeO.none _ | refine LeO.ite ?_ ?_ | refine LeO.bind ?_ (fun _ => ?_))
  | exact ih0 _ _ _ _
  | exact ih1 _ _ _ _ _ _ _ _ _
  | exact ih2 _ _ _ _ _ _ _ _ _ _
  | exact impl_podOk.mono _ _ _ _
  | exact LeO.none _
  | refine LeO.ite ?_ ?_
  | refine LeO.bind ?_ (fun _ => ?_)
  }
  {
  intro y0 y1 y2 y3 y4 y5 y6 y7 y8 y9
  unfold impl_StockOk.l1
  repeat' first
  | (with_reducible first | exact ih0 _ _ _ _ | exact ih1 _ _ _ _ _ _ _ _ _ | exact ih2 _ _ _ _ _ _ _ _ _ _ | exact impl_podOk.mono _ _ _ _ | exact LeO.refl _ | exact LeO.none _ | refine LeO.ite ?_ ?_ | refine LeO.bind ?_ (fun _ => ?_))
  | exact ih0 _ _ _ _
  | exact ih1 _ _ _ _ _ _ _ _ _
  | exact ih2 _ _ _ _ _ _ _ _ _ _
  | exact impl_podOk.mono _ _ _ _
  | exact LeO.none _
  | refine LeO.ite ?_ ?_
  | refine LeO.bind ?_ (fun _ => ?_)
  }
theorem impl_StockOk.mono : ∀ a0 k, LeO (impl_StockOk.f k a0) (impl_StockOk.f (k + 1) a0) := by
 intro a0 k
 obtain ⟨ih0, ih1, ih2⟩ := impl_StockOk.mono_l k
 unfold impl_StockOk.f
 repeat' first
  | (with_reducible first | exact ih0 _ _ _ _ | exact ih1 _ _ _ _ _ _ _ _ _ | exact ih2 _ _ _ _ _ _ _ _ _ _ | exact impl_podOk.mono _ _ _ _ | exact LeO.refl _ | exact LeO.none _ | refine LeO.ite ?_ ?_ | refine LeO.bind ?_ (fun _ => ?_))
  | exact ih0 _ _ _ _
  | exact ih1 _ _ _ _ _ _ _ _ _
  | exact ih2 _ _ _ _ _ _ _ _ _ _
  | exact impl_podOk.mono _ _ _ _
  | exact LeO.none _
  | refine LeO.ite ?_ ?_
  | refine LeO.bind ?_ (fun _ => ?_)
def impl_StockOk.T4 : Bool × List (List Nat × List Nat) := (true, [([], []), ([0], [0]), ([1], [1]), ([2, 1], [2]), ([3], [3]), ([4, 3], [3, 4]), ([5, 3, 3], [3, 5]), ([6], [6]), ([7, 6], [6, 7]), ([6], [6]), ([9, 6], [6, 9]), ([8, 10, 6], [6, 8, 10]), ([11, 6], [6, 11]), ([12, 6], [6, 12]), ([6], [6]), ([14, 6], [6, 14]), ([13, 15, 6], [6, 13, 15]), ([6, 16, 3], [3, 6, 16]), ([3, 17], [3, 17])])
def impl_StockOk.B4 : List Nat := [0, 1, 3, 7, 15, 31, 63, 127, 255, 127, 639, 2047, 4095, 8191, 127, 16511, 65535, 131071, 262143]
theorem impl_StockOk.tab4 : rtab .any (opsOf Try.f21 4) = impl_StockOk.T4 := by kernel_rfl
theorem impl_StockOk.bits4 : waitsOk impl_StockOk.T4.2 impl_StockOk.B4 = true := by kernel_rfl
set_option maxHeartbeats 8000000 in
set_option maxRecDepth 100000 in
theorem impl_StockOk.calls (k : Nat) (A0_0 : Option Addr) (c0_0 : Nat) (l0_0 : List (S79)) (r : Bool) (w : World) (hr0_0 : Kd.C k79 w A0_0 l0_0.length l0_0) (hc0_0 : l0_0.length ≤ c0_0) (h : impl_StockOk.f k l0_0 = some r) :
  Calls Try.prog 21 #[.agg #[.slice A0_0 l0_0.length c0_0]] w fun e w' => e = .returned (.bool r) ∧ Below w.heap.size w w' := by
 have hu26 := Try.underlying26
 have hu79 := Try.underlying79
 have HR0_0 := aM hr0_0
 have HC0_0 := aM hc0_0
 clear hr0_0 hc0_0
 have HB := aM (Below.refl w.heap.size w)
 have H : (impl_StockOk.l0 k l0_0 (l0_0.length : Int) 0 l0_0) = some r := h
 clear h
 have H' := aM H
 clear H
 go_enter Try.func21, Try.ntmps21
 go_wp2_with (first | ((with_reducible refine gate_dst (N := 1) rfl ?_); refine bx_ 1 #[.slice A0_0 l0_0.length c0_0] 26 ?_; intro gb279 hg w2 hbox hb; have n0_ := aM (below_step qz2 hb); have n1_ := aM (hbox); have n2_ := aM ((by rw [hg]; exact (below_size qz2) : w.heap.size ≤ gb279)); have n3_ := aM ((by rw [hg]; exact (below_size qz2) : w.heap.size ≤ gb279)); clear HB; have HB := n0_; have BK279 := n1_; have GW279 := n2_; have GE279 := n3_; clear n0_ n1_ n2_ n3_; clear hb hbox hg; have hcz3_0 := bc0_ BK279.out; have hfz3_0 := blk_frozen BK279.out 0))
 go_loopg [10] k (fun kq v10 w' => ∃ (x10_1 : Int), v10 = .int .i64 x10_1 ∧ Aside0 (impl_StockOk.l0 kq l0_0 (l0_0.length : Int) x10_1 l0_0 = some r) ∧ Aside0 (kq ≤ k) ∧ Aside0 (w'.heap[gb279]? = some (.cells #[(.slice A0_0 l0_0.length c0_0)] 26 (0, 0))) ∧ Aside0 (Below w.heap.size w w'))
 case atStart => exact ⟨(0), qz13, H', ⟨Nat.le_refl _⟩, ⟨bk_ BK279.out⟩, ⟨by repeat (first | (with_reducible first | exact HB.out | apply below_alloc | apply pw_below_drewN | apply below_drew1 | refine below_set ?_ GE279.out) | exact HB.out)⟩⟩
 case round =>
  clear H'
  try clear c2
  try clear p2
  try clear hcz3_0
  try clear hfz3_0
  obtain ⟨x10_1, rfl, HA, HK1, BK279, HB⟩ := hrel
  cases gk with
  | zero => exact absurd HA.out (by simp [impl_StockOk.l0])
  | succ k1 =>
   have H := HA.out
   clear HA
   simp only [impl_StockOk.l0] at H
   by_cases c4 : x10_1 < (l0_0.length : Int)
   {
   rw [if_pos c4] at H
   have c4b0 := decide_eq_true c4
   clear c4
   by_cases c5 : 0 ≤ x10_1
   {
   rw [if_pos c5] at H
   have c5b0 := decide_eq_true c5
   clear c5
   by_cases c6 : x10_1 < (l0_0.length : Int)
   {
   rw [if_pos c6] at H
   have c6b0 := decide_eq_true c6
   clear c6
   have HC7 := aM H
   clear H
   have p280 : 0 ≤ (x10_1 : Int) := of_decide_eq_true qz4
   have q280 : x10_1 < (l0_0.length : Int) := of_decide_eq_true qz4
   obtain ⟨ad280, A280_2, c280_2, e280, hx280_0, hx280_1, hx280_2, hl280_2, hi280_2⟩ := at_T79 HR0_0.out x10_1 p280 q280
   cases e280
   replace hx280_0 := pw_cell_below HB.out hx280_0
   replace hx280_1 := pw_cell_below HB.out hx280_1
   replace hx280_2 := pw_cell_below HB.out hx280_2
   have HR280_2 := aM hi280_2
   have HC280_2 := aM hl280_2
   clear hi280_2 hl280_2
   replace p280 := eq_true p280
   replace q280 := eq_true q280
   go_upto_region 4 with (first | ((with_reducible refine gate_dst (N := 4) rfl ?_); refine bx_ 4 #[.int .i64 0, .int .i64 0, .slice none 0 0] 79 ?_; intro gb281 hg w8 hbox hb; have n0_ := aM (blk_below (bk_ BK279.out) hb); have n1_ := aM (below_step qz97 hb); have n2_ := aM (hbox); have n3_ := aM ((by rw [hg]; exact (below_size qz97) : w.heap.size ≤ gb281)); have n4_ := aM ((by rw [hg]; exact (below_size qz97) : w.heap.size ≤ gb281)); have n5_ := aM ((by rw [hg]; exact Nat.ne_of_lt (blk_lt (bk_ BK279.out)) : gb279 ≠ gb281)); have n6_ := aM ((by rw [hg]; exact Nat.ne_of_gt (blk_lt (bk_ BK279.out)) : gb281 ≠ gb279)); clear BK279 HB; have BK279 := n0_; have HB := n1_; have BK281 := n2_; have GW281 := n3_; have GE281 := n4_; have NB279_281 := n5_; have NB281_279 := n6_; clear n0_ n1_ n2_ n3_ n4_ n5_ n6_; clear hb hbox hg; have hnb9 := NB281_279.out; have hnc9 := NB279_281.out; obtain ⟨hcz10_0, hcz10_1, hcz10_2, hfz10_0, hfz10_1, hfz10_2⟩ := b6_ BK281.out))
   (try simp only [Act.put, List.setIfInBounds_toArray, List.set_cons_zero, List.set_cons_succ])
   go_cut [33] (fun v33 wc => ∃ (kq : Nat) (x33_6 : Bool), v33 = .bool x33_6 ∧ Aside0 (impl_StockOk.j1 kq x10_1 l0_0 (l0_0.length : Int) x10_1 x33_6 l0_0 ((rd_T79 l0_0 x10_1).f0) ((rd_T79 l0_0 x10_1).f1) ((rd_T79 l0_0 x10_1).f2) = some r) ∧ Aside0 (kq ≤ k1) ∧ Aside0 (wc.heap[gb279]? = some (.cells #[(.slice (some ad280) l0_0.length c0_0)] 26 (0, 0))) ∧ Aside0 (wc.heap[gb281]? = some (.cells #[.int .i64 ((rd_T79 l0_0 x10_1).f0), .int .i64 ((rd_T79 l0_0 x10_1).f1), (.slice A280_2 ((rd_T79 l0_0 x10_1).f2).length c280_2)] 79 (0, 0))) ∧ Aside0 (Below w.heap.size w wc))
   case first =>
    have H := HC7.out
    clear HC7
    replace H := Option.bind_eq_some_iff.mp H
    obtain ⟨t282, A110, H⟩ := H
    replace H : (if t282 = true then (if x10_1 > 0 then (if 0 ≤ (wrap64 (x10_1 - 1)) then (if (wrap64 (x10_1 - 1)) < (l0_0.length : Int) then (impl_StockOk.j1 k1 x10_1 l0_0 (l0_0.length : Int) x10_1 (decide (((rd_T79 l0_0 (wrap64 (x10_1 - 1))).f0) ≥ ((rd_T79 l0_0 x10_1).f0))) l0_0 ((rd_T79 l0_0 x10_1).f0) ((rd_T79 l0_0 x10_1).f1) ((rd_T79 l0_0 x10_1).f2)) else (none)) else (none)) else (impl_StockOk.j1 k1 x10_1 l0_0 (l0_0.length : Int) x10_1 false l0_0 ((rd_T79 l0_0 x10_1).f0) ((rd_T79 l0_0 x10_1).f1) ((rd_T79 l0_0 x10_1).f2))) else (impl_StockOk.j1 k1 x10_1 l0_0 (l0_0.length : Int) x10_1 true l0_0 ((rd_T79 l0_0 x10_1).f0) ((rd_T79 l0_0 x10_1).f1) ((rd_T79 l0_0 x10_1).f2))) = some r := H
    have A11 := aM A110
    clear A110
    by_cases c12 : t282 = true
    {
    subst c12
    rw [if_pos rfl] at H
    by_cases c13 : x10_1 > 0
    {
    rw [if_pos c13] at H
    have c13b0 := decide_eq_true c13
    clear c13
    (first | rw [c13b0] | (simp only [i64_w, i32_w]; rw [c13b0]) | rw [@decide_eq_true _ _ (of_decide_eq_true c13b0)] | rw [@decide_eq_true _ _ (of_decide_eq_true c13b1)] | skip)
    obtain ⟨ji14, hji14⟩ : ∃ j_ : Int, (wrap64 (x10_1 - 1)) = j_ := ⟨_, rfl⟩
    replace H : (if 0 ≤ (ji14) then (if (ji14) < (l0_0.length : Int) then (impl_StockOk.j1 k1 x10_1 l0_0 (l0_0.length : Int) x10_1 (decide (((rd_T79 l0_0 (ji14)).f0) ≥ ((rd_T79 l0_0 x10_1).f0))) l0_0 ((rd_T79 l0_0 x10_1).f0) ((rd_T79 l0_0 x10_1).f1) ((rd_T79 l0_0 x10_1).f2)) else (none)) else (none)) = some r := by first | (rw [hji14] at H; exact H) | (simp only [hji14] at H ⊢; exact H)
    (try rw [hji14] at A11)
    have hji14w : (IntKind.i64.wrap (x10_1 - 1)) = ji14 := (i64_w _).trans hji14
    by_cases c15 : 0 ≤ (ji14)
    {
    rw [if_pos c15] at H
    have c15b0 := decide_eq_true c15
    clear c15
    by_cases c16 : (ji14) < (l0_0.length : Int)
    {
    rw [if_pos c16] at H
    have c16b0 := decide_eq_true c16
    clear c16
    have H' := aM H
    clear H
    try go_wp2
    generalize hq_ : (((w8.setCell ⟨gb281, 0, none⟩ (.int .i64 ((rd_T79 l0_0 x10_1).f0))).setCell ⟨gb281, 1, none⟩ (.int .i64 ((rd_T79 l0_0 x10_1).f1))).setCell ⟨gb281, 2, none⟩ (.slice A280_2 ((rd_T79 l0_0 x10_1).f2).length c280_2)) = w17
    have n0_ : Aside0 (w17.heap[gb279]? = some (.cells #[.slice (some ad280) l0_0.length c0_0] 26 (0, 0))) := ⟨by rw [← hq_]; exact qz58⟩
    have n1_ : Aside0 (w17.heap[gb281]? = some (.cells #[.int .i64 ((rd_T79 l0_0 x10_1).f0), .int .i64 ((rd_T79 l0_0 x10_1).f1), .slice A280_2 ((rd_T79 l0_0 x10_1).f2).length c280_2] 79 (0, 0))) := ⟨by rw [← hq_]; exact (by (with_reducible repeat (first | refine blk_drewN ?_ _ | refine blk_drew ?_ | refine blk_alloc ?_ _)); refine blk_put (cs := #[.int .i64 ((rd_T79 l0_0 x10_1).f0), .int .i64 ((rd_T79 l0_0 x10_1).f1), .slice none 0 0]) ?_ 2 _ rfl; (with_reducible repeat (first | refine blk_drewN ?_ _ | refine blk_drew ?_ | refine blk_alloc ?_ _)); refine blk_put (cs := #[.int .i64 ((rd_T79 l0_0 x10_1).f0), .int .i64 0, .slice none 0 0]) ?_ 1 _ rfl; (with_reducible repeat (first | refine blk_drewN ?_ _ | refine blk_drew ?_ | refine blk_alloc ?_ _)); refine blk_put (cs := #[.int .i64 0, .int .i64 0, .slice none 0 0]) ?_ 0 _ rfl; exact bk_ BK281.out)⟩
    have n2_ : Aside0 (Below w.heap.size w w17) := ⟨by rw [← hq_]; exact qz24⟩
    (try clear BK279)
    (try clear BK281)
    (try clear HB)
    clear hq_
    have BK279 := n0_
    have BK281 := n1_
    have HB := n2_
    clear n0_ n1_ n2_
    have n0_ := aM (blk_drew BK279.out)
    have n1_ := aM (blk_drew BK281.out)
    have n2_ := aM (below_drew1 HB.out)
    clear BK279
    clear BK281
    clear HB
    have BK279 := n0_
    have BK281 := n1_
    have HB := n2_
    clear n0_ n1_ n2_
    have p283 : 0 ≤ ((ji14) : Int) := of_decide_eq_true qz4
    have q283 : (ji14) < (l0_0.length : Int) := of_decide_eq_true qz4
    obtain ⟨ad283, A283_2, c283_2, e283, hx283_0, hx283_1, hx283_2, hl283_2, hi283_2⟩ := at_T79 HR0_0.out (ji14) p283 q283
    have hw283_2 := hx283_2
    have hw283_1 := hx283_1
    have hw283_0 := hx283_0
    obtain rfl : ad280 = ad283 := (by injection e283)
    replace hx283_0 := pw_cell_below HB.out hx283_0
    replace hx283_1 := pw_cell_below HB.out hx283_1
    replace hx283_2 := pw_cell_below HB.out hx283_2
    have HR283_2 := aM hi283_2
    have HC283_2 := aM hl283_2
    clear hi283_2 hl283_2
    replace p283 := eq_true p283
    replace q283 := eq_true q283
    refine start_ (n := 19) (S := fun w' => w'.cell? ⟨gb281, 0, none⟩ = some (.int .i64 ((rd_T79 l0_0 x10_1).f0)) ∧ w'.cell? ⟨gb281, 1, none⟩ = some (.int .i64 ((rd_T79 l0_0 x10_1).f1)) ∧ w'.cell? ⟨gb281, 2, none⟩ = some (.slice A280_2 ((rd_T79 l0_0 x10_1).f2).length c280_2) ∧ w'.cell? ⟨gb279, 0, none⟩ = some (.slice (some ad280) l0_0.length c0_0) ∧ w'.cell? (ad280.add (((ji14)).toNat * 3)) = some (.int .i64 ((rd_T79 l0_0 (ji14)).f0)) ∧ w'.cell? ⟨(ad280.add (((ji14)).toNat * 3)).block, (ad280.add (((ji14)).toNat * 3)).off + 1, none⟩ = some (.int .i64 ((rd_T79 l0_0 (ji14)).f1)) ∧ w'.cell? ⟨(ad280.add (((ji14)).toNat * 3)).block, (ad280.add (((ji14)).toNat * 3)).off + 2, none⟩ = some (.slice A283_2 ((rd_T79 l0_0 (ji14)).f2).length c283_2)) (ds := []) #[false, false, false, false, false, false, false, false, false, false, false, false, false, false, false, false, false, false, false] (by kernel_rfl) rfl rfl ⟨(blk_cell BK281.out 0).trans rfl, (blk_cell BK281.out 1).trans rfl, (blk_cell BK281.out 2).trans rfl, (blk_cell BK279.out 0).trans rfl, (pw_cell_below HB.out hw283_0), (pw_cell_below HB.out hw283_1), (pw_cell_below HB.out hw283_2)⟩ (fun hHeld => ?_); refine with_tabW impl_StockOk.tab4 impl_StockOk.bits4 (fun HT_ HW_ => ?_)
    generalize w17.drew = w18 at BK279 BK281 HB HR283_2 hx283_0 hx283_1 hx283_2 hHeld ⊢
    refine tI7_ 0 15 (bqz 19 1) ?_
    refine one_ (i := 1) (N := some 16) (bqz 19 3) rfl rfl qzc (by decide) (fun K hK => ?_)
    refine goes_ Try.func66 (by kernel_rfl) rfl #[.agg #[.int .i64 ((rd_T79 l0_0 x10_1).f0), .int .i64 ((rd_T79 l0_0 x10_1).f1), .slice A280_2 ((rd_T79 l0_0 x10_1).f2).length c280_2]] (by rfl) rfl rfl qz1 ?_
    with_reducible refine (impl_podOk.calls k1 ((rd_T79 l0_0 x10_1).f0) ((rd_T79 l0_0 x10_1).f1) _ _ ((rd_T79 l0_0 x10_1).f2) true _ ?side1 ?side2 A11.out).mono ?_
    (case side1 => exact qz99)
    (case side2 => exact HC280_2.out)
    rintro e w19 ⟨rfl, hb⟩
    refine ⟨_, rfl, ?_⟩
    have n0_ := aM (blk_below (bk_ BK279.out) hb)
    have n1_ := aM (blk_below (bk_ BK281.out) hb)
    have n2_ := aM (below_step qz24 hb)
    clear BK279
    clear BK281
    clear HB
    have BK279 := n0_
    have BK281 := n1_
    have HB := n2_
    clear n0_ n1_ n2_
    (try clear hb)
    (try clear hb2)
    (try clear hk)
    (try clear hi)
    refine hK.out _ _ ⟨(blk_cell BK281.out 0).trans rfl, (blk_cell BK281.out 1).trans rfl, (blk_cell BK281.out 2).trans rfl, (blk_cell BK279.out 0).trans rfl, (pw_cell_below HB.out hw283_0), (pw_cell_below HB.out hw283_1), (pw_cell_below HB.out hw283_2)⟩ (fun hHeld => ?_)
    clear hK K
    refine norm_ (a' := ?_) ?_ ?_
    rotate_left
    {
    show Act.put _ (some 16) _ = _
    simp only [qzs]
    rfl
    }
    refine pI_ 2 17 (bqz 19 7) ?_
    refine pI_ 3 18 (bqz 19 15) ?_
    refine pI_ 4 19 (bqz 19 31) ?_
    refine pI_ 5 20 (bqz 19 63) ?_
    refine pI_ 6 21 (bqz 19 127) ?_
    refine pI_ 7 22 (bqz 19 255) ?_
    refine pI_ 9 24 (bqz 19 767) ?_
    refine pI_ 10 25 (bqz 19 1791) ?_
    refine pI_ 14 29 (bqz 19 18175) ?_
    refine tI7_ 8 23 (bqz 19 18431) ?_
    refine pI_ 11 26 (bqz 19 20479) ?_
    refine pI_ 12 27 (bqz 19 24575) ?_
    refine tI7_ 13 28 (bqz 19 32767) ?_
    refine tI7_ 15 30 (bqz 19 65535) ?_
    refine pI_ 16 31 (bqz 19 131071) ?_
    refine pI_ 17 32 (bqz 19 262143) ?_
    refine pI_ 18 33 (bqz 19 524287) ?_
    refine done_ (done_of HT_.out (by kernel_rfl)) ?_
    try go_wp2
    go_meet
    case rel => exact ⟨_, (decide (((rd_T79 l0_0 (ji14)).f0) ≥ ((rd_T79 l0_0 x10_1).f0))), (by first | rfl | (simp; done) | (simp only [← hji14] <;> (first | rfl | simp)) | (simp [*]; done)), H', ⟨by have := HK1.out; first | omega | exact Nat.le_refl _⟩, ⟨bk_ BK279.out⟩, ⟨bk_ BK281.out⟩, ⟨by repeat (first | (with_reducible first | exact HB.out | apply below_alloc | apply pw_below_drewN | apply below_drew1 | refine below_set ?_ GE279.out | refine below_set ?_ GE281.out) | exact HB.out)⟩⟩
    }
    {
    rw [if_neg c16] at H
    exact absurd H (by simp)
    }
    }
    {
    rw [if_neg c15] at H
    exact absurd H (by simp)
    }
    }
    {
    rw [if_neg c13] at H
    have c13b0 := decide_eq_false c13
    clear c13
    (first | rw [c13b0] | (simp only [i64_w, i32_w]; rw [c13b0]) | rw [@decide_eq_false _ _ (of_decide_eq_false c13b0)] | rw [@decide_eq_false _ _ (of_decide_eq_false c13b1)] | skip)
    have H' := aM H
    clear H
    try go_wp2
    generalize hq_ : (((w8.setCell ⟨gb281, 0, none⟩ (.int .i64 ((rd_T79 l0_0 x10_1).f0))).setCell ⟨gb281, 1, none⟩ (.int .i64 ((rd_T79 l0_0 x10_1).f1))).setCell ⟨gb281, 2, none⟩ (.slice A280_2 ((rd_T79 l0_0 x10_1).f2).length c280_2)) = w20
    have n0_ : Aside0 (w20.heap[gb279]? = some (.cells #[.slice (some ad280) l0_0.length c0_0] 26 (0, 0))) := ⟨by rw [← hq_]; exact qz58⟩
    have n1_ : Aside0 (w20.heap[gb281]? = some (.cells #[.int .i64 ((rd_T79 l0_0 x10_1).f0), .int .i64 ((rd_T79 l0_0 x10_1).f1), .slice A280_2 ((rd_T79 l0_0 x10_1).f2).length c280_2] 79 (0, 0))) := ⟨by rw [← hq_]; exact (by (with_reducible repeat (first | refine blk_drewN ?_ _ | refine blk_drew ?_ | refine blk_alloc ?_ _)); refine blk_put (cs := #[.int .i64 ((rd_T79 l0_0 x10_1).f0), .int .i64 ((rd_T79 l0_0 x10_1).f1), .slice none 0 0]) ?_ 2 _ rfl; (with_reducible repeat (first | refine blk_drewN ?_ _ | refine blk_drew ?_ | refine blk_alloc ?_ _)); refine blk_put (cs := #[.int .i64 ((rd_T79 l0_0 x10_1).f0), .int .i64 0, .slice none 0 0]) ?_ 1 _ rfl; (with_reducible repeat (first | refine blk_drewN ?_ _ | refine blk_drew ?_ | refine blk_alloc ?_ _)); refine blk_put (cs := #[.int .i64 0, .int .i64 0, .slice none 0 0]) ?_ 0 _ rfl; exact bk_ BK281.out)⟩
    have n2_ : Aside0 (Below w.heap.size w w20) := ⟨by rw [← hq_]; exact qz24⟩
    (try clear BK279)
    (try clear BK281)
    (try clear HB)
    clear hq_
    have BK279 := n0_
    have BK281 := n1_
    have HB := n2_
    clear n0_ n1_ n2_
    have n0_ := aM (blk_drew BK279.out)
    have n1_ := aM (blk_drew BK281.out)
    have n2_ := aM (below_drew1 HB.out)
    clear BK279
    clear BK281
    clear HB
    have BK279 := n0_
    have BK281 := n1_
    have HB := n2_
    clear n0_ n1_ n2_
    refine start_ (n := 19) (S := fun w' => w'.cell? ⟨gb281, 0, none⟩ = some (.int .i64 ((rd_T79 l0_0 x10_1).f0)) ∧ w'.cell? ⟨gb281, 1, none⟩ = some (.int .i64 ((rd_T79 l0_0 x10_1).f1)) ∧ w'.cell? ⟨gb281, 2, none⟩ = some (.slice A280_2 ((rd_T79 l0_0 x10_1).f2).length c280_2)) (ds := []) #[false, false, false, false, false, false, false, false, false, false, false, false, false, false, false, false, false, false, false] (by kernel_rfl) rfl rfl ⟨(blk_cell BK281.out 0).trans rfl, (blk_cell BK281.out 1).trans rfl, (blk_cell BK281.out 2).trans rfl⟩ (fun hHeld => ?_); refine with_tabW impl_StockOk.tab4 impl_StockOk.bits4 (fun HT_ HW_ => ?_)
    generalize w20.drew = w21 at BK279 BK281 HB hHeld ⊢
    refine tI3_ 0 15 (bqz 19 1) ?_
    refine one_ (i := 1) (N := some 16) (bqz 19 3) rfl rfl qzc (by decide) (fun K hK => ?_)
    refine goes_ Try.func66 (by kernel_rfl) rfl #[.agg #[.int .i64 ((rd_T79 l0_0 x10_1).f0), .int .i64 ((rd_T79 l0_0 x10_1).f1), .slice A280_2 ((rd_T79 l0_0 x10_1).f2).length c280_2]] (by rfl) rfl rfl qz1 ?_
    with_reducible refine (impl_podOk.calls k1 ((rd_T79 l0_0 x10_1).f0) ((rd_T79 l0_0 x10_1).f1) _ _ ((rd_T79 l0_0 x10_1).f2) true _ ?side1 ?side2 A11.out).mono ?_
    (case side1 => exact qz99)
    (case side2 => exact HC280_2.out)
    rintro e w22 ⟨rfl, hb⟩
    refine ⟨_, rfl, ?_⟩
    have n0_ := aM (blk_below (bk_ BK279.out) hb)
    have n1_ := aM (blk_below (bk_ BK281.out) hb)
    have n2_ := aM (below_step qz24 hb)
    clear BK279
    clear BK281
    clear HB
    have BK279 := n0_
    have BK281 := n1_
    have HB := n2_
    clear n0_ n1_ n2_
    (try clear hb)
    (try clear hb2)
    (try clear hk)
    (try clear hi)
    refine hK.out _ _ ⟨(blk_cell BK281.out 0).trans rfl, (blk_cell BK281.out 1).trans rfl, (blk_cell BK281.out 2).trans rfl⟩ (fun hHeld => ?_)
    clear hK K
    refine norm_ (a' := ?_) ?_ ?_
    rotate_left
    {
    show Act.put _ (some 16) _ = _
    simp only [qzs]
    rfl
    }
    refine pI_ 2 17 (bqz 19 7) ?_
    refine pI_ 3 18 (bqz 19 15) ?_
    refine pI_ 4 19 (bqz 19 31) ?_
    refine pI_ 5 20 (bqz 19 63) ?_
    refine pI_ 6 21 (bqz 19 127) ?_
    refine pU_ 7 22 (bqz 19 255) ?_
    refine pU_ 8 23 (bqz 19 511) ?_
    refine pU_ 9 24 (bqz 19 1023) ?_
    refine pU_ 10 25 (bqz 19 2047) ?_
    refine pU_ 11 26 (bqz 19 4095) ?_
    refine pU_ 12 27 (bqz 19 8191) ?_
    refine pU_ 13 28 (bqz 19 16383) ?_
    refine pU_ 14 29 (bqz 19 32767) ?_
    refine pU_ 15 30 (bqz 19 65535) ?_
    refine pU_ 16 31 (bqz 19 131071) ?_
    refine pI_ 17 32 (bqz 19 262143) ?_
    refine pI_ 18 33 (bqz 19 524287) ?_
    refine done_ (done_of HT_.out (by kernel_rfl)) ?_
    try go_wp2
    go_meet
    case rel => exact ⟨_, (false), qz13, H', ⟨by have := HK1.out; first | omega | exact Nat.le_refl _⟩, ⟨bk_ BK279.out⟩, ⟨bk_ BK281.out⟩, ⟨by repeat (first | (with_reducible first | exact HB.out | apply below_alloc | apply pw_below_drewN | apply below_drew1 | refine below_set ?_ GE279.out | refine below_set ?_ GE281.out) | exact HB.out)⟩⟩
    }
    }
    {
    replace c12 := Bool.eq_false_iff.mpr c12
    subst c12
    rw [if_neg (show ¬ (false = true) by decide)] at H
    have H' := aM H
    clear H
    try go_wp2
    generalize hq_ : (((w8.setCell ⟨gb281, 0, none⟩ (.int .i64 ((rd_T79 l0_0 x10_1).f0))).setCell ⟨gb281, 1, none⟩ (.int .i64 ((rd_T79 l0_0 x10_1).f1))).setCell ⟨gb281, 2, none⟩ (.slice A280_2 ((rd_T79 l0_0 x10_1).f2).length c280_2)) = w23
    have n0_ : Aside0 (w23.heap[gb279]? = some (.cells #[.slice (some ad280) l0_0.length c0_0] 26 (0, 0))) := ⟨by rw [← hq_]; exact qz58⟩
    have n1_ : Aside0 (w23.heap[gb281]? = some (.cells #[.int .i64 ((rd_T79 l0_0 x10_1).f0), .int .i64 ((rd_T79 l0_0 x10_1).f1), .slice A280_2 ((rd_T79 l0_0 x10_1).f2).length c280_2] 79 (0, 0))) := ⟨by rw [← hq_]; exact (by (with_reducible repeat (first | refine blk_drewN ?_ _ | refine blk_drew ?_ | refine blk_alloc ?_ _)); refine blk_put (cs := #[.int .i64 ((rd_T79 l0_0 x10_1).f0), .int .i64 ((rd_T79 l0_0 x10_1).f1), .slice none 0 0]) ?_ 2 _ rfl; (with_reducible repeat (first | refine blk_drewN ?_ _ | refine blk_drew ?_ | refine blk_alloc ?_ _)); refine blk_put (cs := #[.int .i64 ((rd_T79 l0_0 x10_1).f0), .int .i64 0, .slice none 0 0]) ?_ 1 _ rfl; (with_reducible repeat (first | refine blk_drewN ?_ _ | refine blk_drew ?_ | refine blk_alloc ?_ _)); refine blk_put (cs := #[.int .i64 0, .int .i64 0, .slice none 0 0]) ?_ 0 _ rfl; exact bk_ BK281.out)⟩
    have n2_ : Aside0 (Below w.heap.size w w23) := ⟨by rw [← hq_]; exact qz24⟩
    (try clear BK279)
    (try clear BK281)
    (try clear HB)
    clear hq_
    have BK279 := n0_
    have BK281 := n1_
    have HB := n2_
    clear n0_ n1_ n2_
    have n0_ := aM (blk_drew BK279.out)
    have n1_ := aM (blk_drew BK281.out)
    have n2_ := aM (below_drew1 HB.out)
    clear BK279
    clear BK281
    clear HB
    have BK279 := n0_
    have BK281 := n1_
    have HB := n2_
    clear n0_ n1_ n2_
    refine start_ (n := 19) (S := fun w' => w'.cell? ⟨gb281, 0, none⟩ = some (.int .i64 ((rd_T79 l0_0 x10_1).f0)) ∧ w'.cell? ⟨gb281, 1, none⟩ = some (.int .i64 ((rd_T79 l0_0 x10_1).f1)) ∧ w'.cell? ⟨gb281, 2, none⟩ = some (.slice A280_2 ((rd_T79 l0_0 x10_1).f2).length c280_2)) (ds := []) #[false, false, false, false, false, false, false, false, false, false, false, false, false, false, false, false, false, false, false] (by kernel_rfl) rfl rfl ⟨(blk_cell BK281.out 0).trans rfl, (blk_cell BK281.out 1).trans rfl, (blk_cell BK281.out 2).trans rfl⟩ (fun hHeld => ?_); refine with_tabW impl_StockOk.tab4 impl_StockOk.bits4 (fun HT_ HW_ => ?_)
    generalize w23.drew = w24 at BK279 BK281 HB hHeld ⊢
    refine tI3_ 0 15 (bqz 19 1) ?_
    refine one_ (i := 1) (N := some 16) (bqz 19 3) rfl rfl qzc (by decide) (fun K hK => ?_)
    refine goes_ Try.func66 (by kernel_rfl) rfl #[.agg #[.int .i64 ((rd_T79 l0_0 x10_1).f0), .int .i64 ((rd_T79 l0_0 x10_1).f1), .slice A280_2 ((rd_T79 l0_0 x10_1).f2).length c280_2]] (by rfl) rfl rfl qz1 ?_
    with_reducible refine (impl_podOk.calls k1 ((rd_T79 l0_0 x10_1).f0) ((rd_T79 l0_0 x10_1).f1) _ _ ((rd_T79 l0_0 x10_1).f2) false _ ?side1 ?side2 A11.out).mono ?_
    (case side1 => exact qz99)
    (case side2 => exact HC280_2.out)
    rintro e w25 ⟨rfl, hb⟩
    refine ⟨_, rfl, ?_⟩
    have n0_ := aM (blk_below (bk_ BK279.out) hb)
    have n1_ := aM (blk_below (bk_ BK281.out) hb)
    have n2_ := aM (below_step qz24 hb)
    clear BK279
    clear BK281
    clear HB
    have BK279 := n0_
    have BK281 := n1_
    have HB := n2_
    clear n0_ n1_ n2_
    (try clear hb)
    (try clear hb2)
    (try clear hk)
    (try clear hi)
    refine hK.out _ _ ⟨(blk_cell BK281.out 0).trans rfl, (blk_cell BK281.out 1).trans rfl, (blk_cell BK281.out 2).trans rfl⟩ (fun hHeld => ?_)
    clear hK K
    refine norm_ (a' := ?_) ?_ ?_
    rotate_left
    {
    show Act.put _ (some 16) _ = _
    simp only [qzs]
    rfl
    }
    refine pI_ 2 17 (bqz 19 7) ?_
    refine pI_ 3 18 (bqz 19 15) ?_
    refine pU_ 4 19 (bqz 19 31) ?_
    refine pU_ 5 20 (bqz 19 63) ?_
    refine pU_ 6 21 (bqz 19 127) ?_
    refine pU_ 7 22 (bqz 19 255) ?_
    refine pU_ 8 23 (bqz 19 511) ?_
    refine pU_ 9 24 (bqz 19 1023) ?_
    refine pU_ 10 25 (bqz 19 2047) ?_
    refine pU_ 11 26 (bqz 19 4095) ?_
    refine pU_ 12 27 (bqz 19 8191) ?_
    refine pU_ 13 28 (bqz 19 16383) ?_
    refine pU_ 14 29 (bqz 19 32767) ?_
    refine pU_ 15 30 (bqz 19 65535) ?_
    refine pU_ 16 31 (bqz 19 131071) ?_
    refine pU_ 17 32 (bqz 19 262143) ?_
    refine pI_ 18 33 (bqz 19 524287) ?_
    refine done_ (done_of HT_.out (by kernel_rfl)) ?_
    try go_wp2
    go_meet
    case rel => exact ⟨_, (true), qz13, H', ⟨by have := HK1.out; first | omega | exact Nat.le_refl _⟩, ⟨bk_ BK279.out⟩, ⟨bk_ BK281.out⟩, ⟨by repeat (first | (with_reducible first | exact HB.out | apply below_alloc | apply pw_below_drewN | apply below_drew1 | refine below_set ?_ GE279.out | refine below_set ?_ GE281.out) | exact HB.out)⟩⟩
    }
   case rest =>
    clear HC7
    try clear c1
    try clear c2
    try clear p2
    try clear q2
    try clear hx2
    try clear c5
    try clear c5b0
    try clear c6
    try clear c6b0
    try clear p6
    try clear c9
    try clear c12
    try clear c13
    try clear c13b0
    try clear c13b1
    try clear c15
    try clear c15b0
    try clear c16
    try clear c16b0
    try clear hcz10_0
    try clear hcz10_1
    try clear hcz10_2
    try clear hfz10_0
    try clear hfz10_1
    try clear hfz10_2
    try clear hx280_0
    try clear hx280_1
    try clear hx280_2
    try clear hx283_0
    try clear hx283_1
    try clear hx283_2
    try clear p280
    try clear p283
    try clear q280
    try clear q283
    obtain ⟨kq, x33_6, rfl, HA, HJ6, BK279, BK281, HB⟩ := hcut
    cases kq with
    | zero => exact absurd HA.out (by simp [impl_StockOk.j1])
    | succ kj6 =>
     have H := HA.out
     clear HA
     simp only [impl_StockOk.j1] at H
     by_cases c26 : x33_6 = true
     {
     subst c26
     rw [if_pos rfl] at H
     obtain rfl := Option.some.inj H
     simp only [Option.some.injEq, Prod.mk.injEq] at H
     obtain ⟨rfl⟩ := H
     go_wp2
     go_ret
     exact ⟨by first | rfl | (simp [errW_none, errW_some] <;> rfl) | (simp [*, errW_none, errW_some] <;> rfl), by repeat (first | (with_reducible first | exact HB.out | apply below_alloc | apply pw_below_drewN | apply below_drew1 | refine below_set ?_ GE279.out | refine below_set ?_ GE281.out) | exact HB.out)⟩
     }
     {
     replace c26 := Bool.eq_false_iff.mpr c26
     subst c26
     rw [if_neg (show ¬ (false = true) by decide)] at H
     by_cases c27 : 0 ≤ x10_1
     {
     rw [if_pos c27] at H
     have c27b0 := eq_true c27
     have c27b1 := decide_eq_true c27
     clear c27
     by_cases c28 : x10_1 ≤ (l0_0.length : Int)
     {
     rw [if_pos c28] at H
     have c28b0 := eq_true c28
     have c28b1 := decide_eq_true c28
     clear c28
     obtain ⟨y284, hy284⟩ : ∃ y_ : List (S79), y_ = (l0_0.take (x10_1 : Int).toNat) := ⟨_, rfl⟩
     replace H : (impl_StockOk.l1 kj6 l0_0 (l0_0.length : Int) x10_1 y284 (y284.length : Int) 0 l0_0 ((rd_T79 l0_0 x10_1).f0) ((rd_T79 l0_0 x10_1).f1) ((rd_T79 l0_0 x10_1).f2)) = some r := by first | (rw [hy284]; with_reducible exact H) | (have H2_ := (Option.bind_some _ _).symm.trans H; rw [hy284]; with_reducible exact H2_) | (have H2_ := (Option.bind_some _ _).symm.trans H; with_reducible exact H2_) | with_reducible exact H | (rw [hy284]; exact H) | exact H
     have Ny284 := aM hy284
     clear hy284
     have H' := aM H
     clear H
     have hnb29 := NB279_281.out
     have hnc29 := NB281_279.out
     have hcz30_0 := bc0_ BK279.out
     have hfz30_0 := blk_frozen BK279.out 0
     have q31 : (x10_1 : Int) ≤ ((l0_0.length : Int) : Int) := of_decide_eq_true qz4
     obtain ⟨i031, hi031, _, hsz31, _⟩ := info_parts info79
     have hroom31 : l0_0.length ≤ c0_0 := HC0_0.out
     have hC31 : Kd.C k79 _ (some ad280) l0_0.length l0_0 := HR0_0.out
     have hcut31 := cut_to (P := Try.prog) 24 79 .i64 Try.underlying24 hi031 (some ad280) l0_0.length c0_0 x10_1 (of_decide_eq_true qz4) q31 hroom31
     have hr31 := Kd.C_take (m := (x10_1 : Int).toNat) hC31 (by omega)
     have hy31 : y284.length = (x10_1 : Int).toNat := (by rw [Ny284.out, List.length_take]; omega)
     rw [← Ny284.out] at hr31
     rw [← hy31] at hcut31
     have HR287 := aM hr31
     have HC287 := aM (show y284.length ≤ c0_0 from by omega)
     clear hr31 hC31 hroom31 hi031 hsz31
     have KY31 := aM hy31
     clear hy31
     replace q31 := eq_true q31
     go_wp2
     go_loopg [39] kj6 (fun kq v39 w' => ∃ (x39_3 : Int), v39 = .int .i64 x39_3 ∧ Aside0 (impl_StockOk.l1 kq l0_0 (l0_0.length : Int) x10_1 y284 (y284.length : Int) x39_3 l0_0 ((rd_T79 l0_0 x10_1).f0) ((rd_T79 l0_0 x10_1).f1) ((rd_T79 l0_0 x10_1).f2) = some r) ∧ Aside0 (kq ≤ kj6) ∧ Aside0 (w'.heap[gb279]? = some (.cells #[(.slice (some ad280) l0_0.length c0_0)] 26 (0, 0))) ∧ Aside0 (w'.heap[gb281]? = some (.cells #[.int .i64 ((rd_T79 l0_0 x10_1).f0), .int .i64 ((rd_T79 l0_0 x10_1).f1), (.slice A280_2 ((rd_T79 l0_0 x10_1).f2).length c280_2)] 79 (0, 0))) ∧ Aside0 (Below w.heap.size w w'))
     case atStart => exact ⟨(0), qz13, H', ⟨Nat.le_refl _⟩, ⟨bk_ BK279.out⟩, ⟨bk_ BK281.out⟩, ⟨by repeat (first | (with_reducible first | exact HB.out | apply below_alloc | apply pw_below_drewN | apply below_drew1 | refine below_set ?_ GE279.out | refine below_set ?_ GE281.out) | exact HB.out)⟩⟩
     case round =>
      clear H'
      try clear c1
      try clear c2
      try clear p2
      try clear q2
      try clear hx2
      try clear q3
      try clear c5
      try clear c5b0
      try clear c6
      try clear c6b0
      try clear p6
      try clear c9
      try clear c12
      try clear c13
      try clear c13b0
      try clear c13b1
      try clear c15
      try clear c15b0
      try clear c16
      try clear c16b0
      try clear c26
      try clear c27
      try clear c27b0
      try clear c27b1
      try clear c28
      try clear c28b0
      try clear c28b1
      try clear p28
      try clear q28
      try clear hx28
      try clear c29
      try clear q31
      try clear hcz10_0
      try clear hcz10_1
      try clear hcz10_2
      try clear hcz30_0
      try clear hfz10_0
      try clear hfz10_1
      try clear hfz10_2
      try clear hfz30_0
      try clear hx280_0
      try clear hx280_1
      try clear hx280_2
      try clear hx283_0
      try clear hx283_1
      try clear hx283_2
      try clear p2
      try clear p280
      try clear p283
      try clear p6
      try clear q2
      try clear q280
      try clear q283
      try clear q31
      obtain ⟨x39_3, rfl, HA, HK3, BK279, BK281, HB⟩ := hrel
      cases gk with
      | zero => exact absurd HA.out (by simp [impl_StockOk.l1])
      | succ k3 =>
       have H := HA.out
       clear HA
       simp only [impl_StockOk.l1] at H
       by_cases c32 : x39_3 < (y284.length : Int)
       {
       rw [if_pos c32] at H
       have c32b0 := decide_eq_true c32
       clear c32
       by_cases c33 : 0 ≤ x39_3
       {
       rw [if_pos c33] at H
       have c33b0 := decide_eq_true c33
       clear c33
       by_cases c34 : x39_3 < (y284.length : Int)
       {
       rw [if_pos c34] at H
       have c34b0 := decide_eq_true c34
       clear c34
       by_cases c35 : ((rd_T79 y284 x39_3).f1) = ((rd_T79 l0_0 x10_1).f1)
       {
       rw [if_pos c35] at H
       have c35b0 := beq_iff_eq.mpr c35
       have c35b1 := bne_eq_false_iff_eq.mpr c35
       clear c35
       obtain rfl := Option.some.inj H
       simp only [Option.some.injEq, Prod.mk.injEq] at H
       obtain ⟨rfl⟩ := H
       have p288 : 0 ≤ (x39_3 : Int) := of_decide_eq_true qz4
       have q288 : x39_3 < (y284.length : Int) := of_decide_eq_true qz4
       obtain ⟨ad288, A288_2, c288_2, e288, hx288_0, hx288_1, hx288_2, hl288_2, hi288_2⟩ := at_T79 HR287.out x39_3 p288 q288
       obtain rfl : ad280 = ad288 := (by injection e288)
       replace hx288_0 := pw_cell_below HB.out hx288_0
       replace hx288_1 := pw_cell_below HB.out hx288_1
       replace hx288_2 := pw_cell_below HB.out hx288_2
       have HR288_2 := aM hi288_2
       have HC288_2 := aM hl288_2
       clear hi288_2 hl288_2
       replace p288 := eq_true p288
       replace q288 := eq_true q288
       go_wp2_with (first | ((with_reducible refine gate_dst (N := 6) rfl ?_); refine bx_ 6 #[.int .i64 0, .int .i64 0, .slice none 0 0] 79 ?_; intro gb289 hg w36 hbox hb; have n0_ := aM (blk_below (bk_ BK279.out) hb); have n1_ := aM (blk_below (bk_ BK281.out) hb); have n2_ := aM (below_step qz24 hb); have n3_ := aM (hbox); have n4_ := aM ((by rw [hg]; exact (below_size qz24) : w.heap.size ≤ gb289)); have n5_ := aM ((by rw [hg]; exact (below_size qz24) : w.heap.size ≤ gb289)); have n6_ := aM ((by rw [hg]; exact Nat.ne_of_lt (blk_lt (bk_ BK279.out)) : gb279 ≠ gb289)); have n7_ := aM ((by rw [hg]; exact Nat.ne_of_gt (blk_lt (bk_ BK279.out)) : gb289 ≠ gb279)); have n8_ := aM ((by rw [hg]; exact Nat.ne_of_lt (blk_lt (bk_ BK281.out)) : gb281 ≠ gb289)); have n9_ := aM ((by rw [hg]; exact Nat.ne_of_gt (blk_lt (bk_ BK281.out)) : gb289 ≠ gb281)); clear BK279 BK281 HB; have BK279 := n0_; have BK281 := n1_; have HB := n2_; have BK289 := n3_; have GW289 := n4_; have GE289 := n5_; have NB279_289 := n6_; have NB289_279 := n7_; have NB281_289 := n8_; have NB289_281 := n9_; clear n0_ n1_ n2_ n3_ n4_ n5_ n6_ n7_ n8_ n9_; clear hb hbox hg; have hnb37 := NB289_279.out; have hnc37 := NB279_289.out; have hnb38 := NB289_281.out; have hnc38 := NB281_289.out; obtain ⟨hcz39_0, hcz39_1, hcz39_2, hfz39_0, hfz39_1, hfz39_2⟩ := b6_ BK289.out; have hnb40 := NB281_279.out; have hnc40 := NB279_281.out; obtain ⟨hcz41_0, hcz41_1, hcz41_2, hfz41_0, hfz41_1, hfz41_2⟩ := b6_ BK281.out))
       go_ret
       exact ⟨by first | rfl | (simp [errW_none, errW_some] <;> rfl) | (simp [*, errW_none, errW_some] <;> rfl), by repeat (first | (with_reducible first | exact HB.out | apply below_alloc | apply pw_below_drewN | apply below_drew1 | refine below_set ?_ GE279.out | refine below_set ?_ GE281.out | refine below_set ?_ GE289.out) | exact HB.out)⟩
       }
       {
       rw [if_neg c35] at H
       have c35b0 := beq_eq_false_iff_ne.mpr c35
       have c35b1 := bne_iff_ne.mpr c35
       have H' := aM H
       clear H
       have p288 : 0 ≤ (x39_3 : Int) := of_decide_eq_true qz4
       have q288 : x39_3 < (y284.length : Int) := of_decide_eq_true qz4
       obtain ⟨ad288, A288_2, c288_2, e288, hx288_0, hx288_1, hx288_2, hl288_2, hi288_2⟩ := at_T79 HR287.out x39_3 p288 q288
       obtain rfl : ad280 = ad288 := (by injection e288)
       replace hx288_0 := pw_cell_below HB.out hx288_0
       replace hx288_1 := pw_cell_below HB.out hx288_1
       replace hx288_2 := pw_cell_below HB.out hx288_2
       have HR288_2 := aM hi288_2
       have HC288_2 := aM hl288_2
       clear hi288_2 hl288_2
       replace p288 := eq_true p288
       replace q288 := eq_true q288
       go_wp2_with (first | ((with_reducible refine gate_dst (N := 6) rfl ?_); refine bx_ 6 #[.int .i64 0, .int .i64 0, .slice none 0 0] 79 ?_; intro gb289 hg w42 hbox hb; have n0_ := aM (blk_below (bk_ BK279.out) hb); have n1_ := aM (blk_below (bk_ BK281.out) hb); have n2_ := aM (below_step qz24 hb); have n3_ := aM (hbox); have n4_ := aM ((by rw [hg]; exact (below_size qz24) : w.heap.size ≤ gb289)); have n5_ := aM ((by rw [hg]; exact (below_size qz24) : w.heap.size ≤ gb289)); have n6_ := aM ((by rw [hg]; exact Nat.ne_of_lt (blk_lt (bk_ BK279.out)) : gb279 ≠ gb289)); have n7_ := aM ((by rw [hg]; exact Nat.ne_of_gt (blk_lt (bk_ BK279.out)) : gb289 ≠ gb279)); have n8_ := aM ((by rw [hg]; exact Nat.ne_of_lt (blk_lt (bk_ BK281.out)) : gb281 ≠ gb289)); have n9_ := aM ((by rw [hg]; exact Nat.ne_of_gt (blk_lt (bk_ BK281.out)) : gb289 ≠ gb281)); clear BK279 BK281 HB; have BK279 := n0_; have BK281 := n1_; have HB := n2_; have BK289 := n3_; have GW289 := n4_; have GE289 := n5_; have NB279_289 := n6_; have NB289_279 := n7_; have NB281_289 := n8_; have NB289_281 := n9_; clear n0_ n1_ n2_ n3_ n4_ n5_ n6_ n7_ n8_ n9_; clear hb hbox hg; have hnb43 := NB289_279.out; have hnc43 := NB279_289.out; have hnb44 := NB289_281.out; have hnc44 := NB281_289.out; obtain ⟨hcz45_0, hcz45_1, hcz45_2, hfz45_0, hfz45_1, hfz45_2⟩ := b6_ BK289.out; have hnb46 := NB281_279.out; have hnc46 := NB279_281.out; obtain ⟨hcz47_0, hcz47_1, hcz47_2, hfz47_0, hfz47_1, hfz47_2⟩ := b6_ BK281.out))
       go_roundg k3
       case measure => have := HK1.out; have := HJ6.out; have := HK3.out; omega
       case rel => exact ⟨(wrap64 (x39_3 + 1)), qz13, H', ⟨by have := HK1.out; have := HJ6.out; have := HK3.out; omega⟩, ⟨by (with_reducible repeat (first | refine blk_drewN ?_ _ | refine blk_drew ?_ | refine blk_alloc ?_ _)); refine blk_far ?_ NB279_289.out _; (with_reducible repeat (first | refine blk_drewN ?_ _ | refine blk_drew ?_ | refine blk_alloc ?_ _)); refine blk_far ?_ NB279_289.out _; (with_reducible repeat (first | refine blk_drewN ?_ _ | refine blk_drew ?_ | refine blk_alloc ?_ _)); refine blk_far ?_ NB279_289.out _; exact bk_ BK279.out⟩, ⟨by (with_reducible repeat (first | refine blk_drewN ?_ _ | refine blk_drew ?_ | refine blk_alloc ?_ _)); refine blk_far ?_ NB281_289.out _; (with_reducible repeat (first | refine blk_drewN ?_ _ | refine blk_drew ?_ | refine blk_alloc ?_ _)); refine blk_far ?_ NB281_289.out _; (with_reducible repeat (first | refine blk_drewN ?_ _ | refine blk_drew ?_ | refine blk_alloc ?_ _)); refine blk_far ?_ NB281_289.out _; exact bk_ BK281.out⟩, ⟨by repeat (first | (with_reducible first | exact HB.out | apply below_alloc | apply pw_below_drewN | apply below_drew1 | refine below_set ?_ GE279.out | refine below_set ?_ GE281.out | refine below_set ?_ GE289.out) | exact HB.out)⟩⟩
       }
       }
       {
       rw [if_neg c34] at H
       exact absurd H (by simp)
       }
       }
       {
       rw [if_neg c33] at H
       exact absurd H (by simp)
       }
       }
       {
       rw [if_neg c32] at H
       have c32b0 := decide_eq_false c32
       clear c32
       have H' := aM H
       clear H
       go_wp2
       go_roundg k3
       case measure => have := HK1.out; have := HJ6.out; have := HK3.out; omega
       case rel => exact ⟨(wrap64 (x10_1 + 1)), qz13, H', ⟨by have := HK1.out; have := HJ6.out; have := HK3.out; omega⟩, ⟨bk_ BK279.out⟩, ⟨by repeat (first | (with_reducible first | exact HB.out | apply below_alloc | apply pw_below_drewN | apply below_drew1 | refine below_set ?_ GE279.out | refine below_set ?_ GE281.out) | exact HB.out)⟩⟩
       }
     }
     {
     rw [if_neg c28] at H
     exact absurd H (by simp)
     }
     }
     {
     rw [if_neg c27] at H
     exact absurd H (by simp)
     }
     }
   }
   {
   rw [if_neg c6] at H
   exact absurd H (by simp)
   }
   }
   {
   rw [if_neg c5] at H
   exact absurd H (by simp)
   }
   }
   {
   rw [if_neg c4] at H
   have c4b0 := decide_eq_false c4
   clear c4
   obtain rfl := Option.some.inj H
   simp only [Option.some.injEq, Prod.mk.injEq] at H
   obtain ⟨rfl⟩ := H
   have hcz48_0 := bc0_ BK279.out
   have hfz48_0 := blk_frozen BK279.out 0
   go_wp2
   go_ret
   exact ⟨by first | rfl | (simp [errW_none, errW_some] <;> rfl) | (simp [*, errW_none, errW_some] <;> rfl), by repeat (first | (with_reducible first | exact HB.out | apply below_alloc | apply pw_below_drewN | apply below_drew1 | refine below_set ?_ GE279.out) | exact HB.out)⟩

   }
end Go.Proofs.Yteajnkondkfmgaa.PFnHeld
