-- Made by a program of this session out of the translation. Lean checks it.
import Derived.Test.YteajnkondkfmgaaPFnHeldx0
import Derived.Test.YteajnkondkfmgaaPFnHeldx10
import Derived.Test.YteajnkondkfmgaaPFnHeldx11
namespace Go.Proofs.Yteajnkondkfmgaa.PFnHeld
open Go.RowKit Go.Proofs.YteajnkondkfmgaaW.PrintWords Go.Proofs.YteajnkondkfmgaaW.PrintLast Go.Proofs.YteajnkondkfmgaaW.PrintMore
attribute [local go_sem] max2_int min2_int max_two min_two max_three min_three max_four min_four   -- for this text's walks alone
set_option linter.unusedVariables false
set_option linter.unusedSimpArgs false

/-! ### spec_StockOk: function 37 -/
mutual
def spec_StockOk.l0 : Nat → Int → List (S79) → Option (Bool)
 | 0, _, _ => none
 | k + 1, x3, x314000 => if x3 < (x314000.length : Int) then (if 0 ≤ x3 then ((spec_l1In.f ((rd_T79 x314000 x3).f0) 1 999).bind fun t316 => (if t316 = true then ((spec_l1In.f ((rd_T79 x314000 x3).f1) 0 99).bind fun t317 => (if t317 = true then ((spec_l5Stacks.f k ((rd_T79 x314000 x3).f2)).bind fun t318 => (if t318 = true then (if x3 > 0 then (if 0 ≤ (wrap64 (x3 - 1)) then (if (wrap64 (x3 - 1)) < (x314000.length : Int) then (spec_StockOk.j1 k x3 (decide (((rd_T79 x314000 (wrap64 (x3 - 1))).f0) ≥ ((rd_T79 x314000 x3).f0))) x314000 ((rd_T79 x314000 x3).f0) ((rd_T79 x314000 x3).f1) ((rd_T79 x314000 x3).f2)) else (none)) else (none)) else (spec_StockOk.j1 k x3 false x314000 ((rd_T79 x314000 x3).f0) ((rd_T79 x314000 x3).f1) ((rd_T79 x314000 x3).f2))) else (spec_StockOk.j1 k x3 true x314000 ((rd_T79 x314000 x3).f0) ((rd_T79 x314000 x3).f1) ((rd_T79 x314000 x3).f2)))) else (spec_StockOk.j1 k x3 true x314000 ((rd_T79 x314000 x3).f0) ((rd_T79 x314000 x3).f1) ((rd_T79 x314000 x3).f2)))) else (spec_StockOk.j1 k x3 true x314000 ((rd_T79 x314000 x3).f0) ((rd_T79 x314000 x3).f1) ((rd_T79 x314000 x3).f2)))) else (none)) else (some true)
def spec_StockOk.j1 : Nat → Int → Bool → List (S79) → Int → Int → List (S72) → Option (Bool)
 | 0, _, _, _, _, _, _ => none
 | k + 1, x3, x53, x314000, x316000, x316001, x316002 => if x53 = true then (some false) else (spec_StockOk.l1 k x3 0 x314000 x316000 x316001 x316002)
def spec_StockOk.l1 : Nat → Int → Int → List (S79) → Int → Int → List (S72) → Option (Bool)
 | 0, _, _, _, _, _, _ => none
 | k + 1, x3, x5, x314000, x316000, x316001, x316002 => if x5 < x3 then (if 0 ≤ x5 then (if x5 < (x314000.length : Int) then (if ((rd_T79 x314000 x5).f1) = x316001 then (some false) else (spec_StockOk.l1 k x3 (wrap64 (x5 + 1)) x314000 x316000 x316001 x316002)) else (none)) else (none)) else (spec_StockOk.l0 k (wrap64 (x3 + 1)) x314000)
end
def spec_StockOk.f (k : Nat) (l0_0 : List (S79)) : Option (Bool) := if (l0_0.length : Int) > 12 then (some false) else (spec_StockOk.l0 k 0 l0_0)
theorem spec_StockOk.mono_l : ∀ k, (∀ y0 y1, LeO (spec_StockOk.l0 k y0 y1) (spec_StockOk.l0 (k + 1) y0 y1)) ∧ (∀ y0 y1 y2 y3 y4 y5, LeO (spec_StockOk.j1 k y0 y1 y2 y3 y4 y5) (spec_StockOk.j1 (k + 1) y0 y1 y2 y3 y4 y5)) ∧ (∀ y0 y1 y2 y3 y4 y5, LeO (spec_StockOk.l1 k y0 y1 y2 y3 y4 y5) (spec_StockOk.l1 (k + 1) y0 y1 y2 y3 y4 y5))
 | 0 => ⟨fun _ _ r h => by simp [spec_StockOk.l0] at h, fun _ _ _ _ _ _ r h => by simp [spec_StockOk.j1] at h, fun _ _ _ _ _ _ r h => by simp [spec_StockOk.l1] at h⟩
 | k + 1 => by
  obtain ⟨ih0, ih1, ih2⟩ := spec_StockOk.mono_l k
  refine ⟨?_, ?_, ?_⟩
  {
  intro y0 y1
  unfold spec_StockOk.l0
  repeat' first
  | (with_reducible first | exact ih0 _ _ | exact ih1 _ _ _ _ _ _ | exact ih2 _ _ _ _ _ _ | exact spec_l5Stacks.mono _ _ | exact LeO.refl _ | exact LeO.none _ | refine LeO.ite ?_ ?_ | refine LeO.bind ?_ (fun _ => ?_))
  | exact ih0 _ _
  | exact ih1 _ _ _ _ _ _
  | exact ih2 _ _ _ _ _ _
  | exact spec_l5Stacks.mono _ _
  | exact LeO.none _
  | refine LeO.ite ?_ ?_
  | refine LeO.bind ?_ (fun _ => ?_)
  }
  {
  intro y0 y1 y2 y3 y4 y5
  unfold spec_StockOk.j1
  repeat' first
  | (with_reducible first | exact ih0 _ _ | exact ih1 _ _ _ _ _ _ | exact ih2 _ _ _ _ _ _ | exact spec_l5Stacks.mono _ _ | exact LeO.refl _ | exact LeO.none _ | refine LeO.ite ?_ ?_ | refine LeO.bind ?_ (fun _ => ?_))
  | exact ih0 _ _
  | exact ih1 _ _ _ _ _ _
  | exact ih2 _ _ _ _ _ _
  | exact spec_l5Stacks.mono _ _
  | exact LeO.none _
  | refine LeO.ite ?_ ?_
  | refine LeO.bind ?_ (fun _ => ?_)
  }
  {
  intro y0 y1 y2 y3 y4 y5
  unfold spec_StockOk.l1
  repeat' first
  | (with_reducible first | exact ih0 _ _ | exact ih1 _ _ _ _ _ _ | exact ih2 _ _ _ _ _ _ | exact spec_l5Stacks.mono _ _ | exact LeO.refl _ | exact LeO.none _ | refine LeO.ite ?_ ?_ | refine LeO.bind ?_ (fun _ => ?_))
  | exact ih0 _ _
  | exact ih1 _ _ _ _ _ _
  | exact ih2 _ _ _ _ _ _
  | exact spec_l5Stacks.mono _ _
  | exact LeO.none _
  | refine LeO.ite ?_ ?_
  | refine LeO.bind ?_ (fun _ => ?_)
  }
theorem spec_StockOk.mono : ∀ a0 k, LeO (spec_StockOk.f k a0) (spec_StockOk.f (k + 1) a0) := by
 intro a0 k
 obtain ⟨ih0, ih1, ih2⟩ := spec_StockOk.mono_l k
 unfold spec_StockOk.f
 repeat' first
  | (with_reducible first | exact ih0 _ _ | exact ih1 _ _ _ _ _ _ | exact ih2 _ _ _ _ _ _ | exact spec_l5Stacks.mono _ _ | exact LeO.refl _ | exact LeO.none _ | refine LeO.ite ?_ ?_ | refine LeO.bind ?_ (fun _ => ?_))
  | exact ih0 _ _
  | exact ih1 _ _ _ _ _ _
  | exact ih2 _ _ _ _ _ _
  | exact spec_l5Stacks.mono _ _
  | exact LeO.none _
  | refine LeO.ite ?_ ?_
  | refine LeO.bind ?_ (fun _ => ?_)
def spec_StockOk.T7 : Bool × List (List Nat × List Nat) := (true, [([], []), ([0], [0]), ([1], [1]), ([2], [2]), ([3, 2], [3]), ([4], [4]), ([5, 4], [4, 5]), ([6, 4, 4], [4, 6]), ([7, 4], [4, 7]), ([4, 8], [4, 8]), ([9, 7], [9]), ([10], [10]), ([11, 10], [10, 11]), ([12, 10, 10], [10, 12]), ([13, 10], [10, 13]), ([10, 14], [10, 14]), ([15, 13], [15]), ([16], [16]), ([17, 16], [16, 17]), ([18, 16, 16], [16, 18]), ([19], [19]), ([20, 19], [19, 20]), ([19], [19]), ([22, 19], [19, 22]), ([21, 23, 19], [19, 21, 23]), ([24, 19], [19, 24]), ([25, 19], [19, 25]), ([19], [19]), ([27, 19], [19, 27]), ([26, 28, 19], [19, 26, 28]), ([19, 29, 16], [16, 19, 29]), ([16, 30], [16, 30])])
def spec_StockOk.B7 : List Nat := [0, 1, 3, 7, 15, 31, 63, 127, 255, 511, 1023, 2047, 4095, 8191, 16383, 32767, 65535, 131071, 262143, 524287, 1048575, 2097151, 1048575, 5242879, 16777215, 33554431, 67108863, 1048575, 135266303, 536870911, 1073741823, 2147483647]
theorem spec_StockOk.tab7 : rtab .any (opsOf Try.f37 7) = spec_StockOk.T7 := by kernel_rfl
theorem spec_StockOk.bits7 : waitsOk spec_StockOk.T7.2 spec_StockOk.B7 = true := by kernel_rfl
def spec_StockOk.T12 : Bool × List (List Nat × List Nat) := (true, [([], []), ([0], [0]), ([], []), ([1, 2], [1, 2]), ([3], [3]), ([4], [4]), ([], []), ([6], [6]), ([5, 7], [5, 7])])
def spec_StockOk.B12 : List Nat := [0, 1, 0, 7, 15, 31, 0, 64, 255]
theorem spec_StockOk.tab12 : rtab .any (opsOf Try.f37 12) = spec_StockOk.T12 := by kernel_rfl
theorem spec_StockOk.bits12 : waitsOk spec_StockOk.T12.2 spec_StockOk.B12 = true := by kernel_rfl
set_option maxHeartbeats 8000000 in
set_option maxRecDepth 100000 in
theorem spec_StockOk.calls (k : Nat) (A0_0 : Option Addr) (c0_0 : Nat) (l0_0 : List (S79)) (r : Bool) (w : World) (hr0_0 : Kd.C k79 w A0_0 l0_0.length l0_0) (hc0_0 : l0_0.length ≤ c0_0) (h : spec_StockOk.f k l0_0 = some r) :
  Calls Try.prog 37 #[.agg #[.slice A0_0 l0_0.length c0_0]] w fun e w' => e = .returned (.bool r) ∧ Below w.heap.size w w' := by
 have hu26 := Try.underlying26
 have hu79 := Try.underlying79
 have HR0_0 := aM hr0_0
 have HC0_0 := aM hc0_0
 clear hr0_0 hc0_0
 have HB := aM (Below.refl w.heap.size w)
 have H : (if (l0_0.length : Int) > 12 then (some false) else (spec_StockOk.l0 k 0 l0_0)) = some r := h
 clear h
 by_cases c2 : (l0_0.length : Int) > 12
 {
 rw [if_pos c2] at H
 have c2b0 := decide_eq_true c2
 have c2b1 : decide (12 < l0_0.length) = true := decide_eq_true (by omega)
 clear c2
 obtain rfl := Option.some.inj H
 simp only [Option.some.injEq, Prod.mk.injEq] at H
 obtain ⟨rfl⟩ := H
 go_enter Try.func37, Try.ntmps37
 go_wp2_with (first | ((with_reducible refine gate_dst (N := 1) rfl ?_); refine bx_ 1 #[.slice A0_0 l0_0.length c0_0] 26 ?_; intro gb313 hg w3 hbox hb; have n0_ := aM (below_step qz2 hb); have n1_ := aM (hbox); have n2_ := aM ((by rw [hg]; exact (below_size qz2) : w.heap.size ≤ gb313)); have n3_ := aM ((by rw [hg]; exact (below_size qz2) : w.heap.size ≤ gb313)); clear HB; have HB := n0_; have BK313 := n1_; have GW313 := n2_; have GE313 := n3_; clear n0_ n1_ n2_ n3_; clear hb hbox hg; have hcz4_0 := bc0_ BK313.out; have hfz4_0 := blk_frozen BK313.out 0))
 go_ret
 exact ⟨by first | rfl | (simp [errW_none, errW_some] <;> rfl) | (simp [*, errW_none, errW_some] <;> rfl), by repeat (first | (with_reducible first | exact HB.out | apply below_alloc | apply pw_below_drewN | apply below_drew1 | refine below_set ?_ GE313.out) | exact HB.out)⟩
 }
 {
 rw [if_neg c2] at H
 have c2b0 := decide_eq_false c2
 have c2b1 : decide (12 < l0_0.length) = false := decide_eq_false (by omega)
 clear c2
 have H' := aM H
 clear H
 go_enter Try.func37, Try.ntmps37
 go_wp2_with (first | ((with_reducible refine gate_dst (N := 1) rfl ?_); refine bx_ 1 #[.slice A0_0 l0_0.length c0_0] 26 ?_; intro gb313 hg w5 hbox hb; have n0_ := aM (below_step qz2 hb); have n1_ := aM (hbox); have n2_ := aM ((by rw [hg]; exact (below_size qz2) : w.heap.size ≤ gb313)); have n3_ := aM ((by rw [hg]; exact (below_size qz2) : w.heap.size ≤ gb313)); clear HB; have HB := n0_; have BK313 := n1_; have GW313 := n2_; have GE313 := n3_; clear n0_ n1_ n2_ n3_; clear hb hbox hg; have hcz6_0 := bc0_ BK313.out; have hfz6_0 := blk_frozen BK313.out 0))
 go_loopg [3] k (fun kq v3 w' => ∃ (x3_1 : Int), v3 = .int .i64 x3_1 ∧ Aside0 (spec_StockOk.l0 kq x3_1 l0_0 = some r) ∧ Aside0 (kq ≤ k) ∧ Aside0 (w'.heap[gb313]? = some (.cells #[(.slice A0_0 l0_0.length c0_0)] 26 (0, 0))) ∧ Aside0 (Below w.heap.size w w'))
 case atStart => exact ⟨(0), qz13, H', ⟨Nat.le_refl _⟩, ⟨bk_ BK313.out⟩, ⟨by repeat (first | (with_reducible first | exact HB.out | apply below_alloc | apply pw_below_drewN | apply below_drew1 | refine below_set ?_ GE313.out) | exact HB.out)⟩⟩
 case round =>
  clear H'
  try clear c2
  try clear c2b0
  try clear c2b1
  try clear p2
  try clear c3
  try clear hcz4_0
  try clear hcz6_0
  try clear hfz4_0
  try clear hfz6_0
  obtain ⟨x3_1, rfl, HA, HK1, BK313, HB⟩ := hrel
  cases gk with
  | zero => exact absurd HA.out (by simp [spec_StockOk.l0])
  | succ k1 =>
   have H := HA.out
   clear HA
   simp only [spec_StockOk.l0] at H
   by_cases c7 : x3_1 < (l0_0.length : Int)
   {
   rw [if_pos c7] at H
   have c7b0 := decide_eq_true c7
   clear c7
   by_cases c8 : 0 ≤ x3_1
   {
   rw [if_pos c8] at H
   have c8b0 := decide_eq_true c8
   clear c8
   have HC9 := aM H
   clear H
   have hcz10_0 := bc0_ BK313.out
   have hfz10_0 := blk_frozen BK313.out 0
   have p314 : 0 ≤ (x3_1 : Int) := of_decide_eq_true qz4
   have q314 : x3_1 < (l0_0.length : Int) := of_decide_eq_true qz4
   obtain ⟨ad314, A314_2, c314_2, e314, hx314_0, hx314_1, hx314_2, hl314_2, hi314_2⟩ := at_T79 HR0_0.out x3_1 p314 q314
   cases e314
   replace hx314_0 := pw_cell_below HB.out hx314_0
   replace hx314_1 := pw_cell_below HB.out hx314_1
   replace hx314_2 := pw_cell_below HB.out hx314_2
   have HR314_2 := aM hi314_2
   have HC314_2 := aM hl314_2
   clear hi314_2 hl314_2
   replace p314 := eq_true p314
   replace q314 := eq_true q314
   go_upto_region 7 with (first | ((with_reducible refine gate_dst (N := 4) rfl ?_); refine bx_ 4 #[.int .i64 0, .int .i64 0, .slice none 0 0] 79 ?_; intro gb315 hg w11 hbox hb; have n0_ := aM (blk_below (bk_ BK313.out) hb); have n1_ := aM (below_step qz93 hb); have n2_ := aM (hbox); have n3_ := aM ((by rw [hg]; exact (below_size qz93) : w.heap.size ≤ gb315)); have n4_ := aM ((by rw [hg]; exact (below_size qz93) : w.heap.size ≤ gb315)); have n5_ := aM ((by rw [hg]; exact Nat.ne_of_lt (blk_lt (bk_ BK313.out)) : gb313 ≠ gb315)); have n6_ := aM ((by rw [hg]; exact Nat.ne_of_gt (blk_lt (bk_ BK313.out)) : gb315 ≠ gb313)); clear BK313 HB; have BK313 := n0_; have HB := n1_; have BK315 := n2_; have GW315 := n3_; have GE315 := n4_; have NB313_315 := n5_; have NB315_313 := n6_; clear n0_ n1_ n2_ n3_ n4_ n5_ n6_; clear hb hbox hg; have hnb12 := NB315_313.out; have hnc12 := NB313_315.out; obtain ⟨hcz13_0, hcz13_1, hcz13_2, hfz13_0, hfz13_1, hfz13_2⟩ := b6_ BK315.out))
   (try simp only [Act.put, List.setIfInBounds_toArray, List.set_cons_zero, List.set_cons_succ])
   go_cut [53] (fun v53 wc => ∃ (kq : Nat) (x53_8 : Bool), v53 = .bool x53_8 ∧ Aside0 (spec_StockOk.j1 kq x3_1 x53_8 l0_0 ((rd_T79 l0_0 x3_1).f0) ((rd_T79 l0_0 x3_1).f1) ((rd_T79 l0_0 x3_1).f2) = some r) ∧ Aside0 (kq ≤ k1) ∧ Aside0 (wc.heap[gb313]? = some (.cells #[(.slice (some ad314) l0_0.length c0_0)] 26 (0, 0))) ∧ Aside0 (wc.heap[gb315]? = some (.cells #[.int .i64 ((rd_T79 l0_0 x3_1).f0), .int .i64 ((rd_T79 l0_0 x3_1).f1), (.slice A314_2 ((rd_T79 l0_0 x3_1).f2).length c314_2)] 79 (0, 0))) ∧ Aside0 (Below w.heap.size w wc))
   case first =>
    have H := HC9.out
    clear HC9
    replace H := Option.bind_eq_some_iff.mp H
    obtain ⟨t316, A140, H⟩ := H
    replace H : (if t316 = true then ((spec_l1In.f ((rd_T79 l0_0 x3_1).f1) 0 99).bind fun t317 => (if t317 = true then ((spec_l5Stacks.f k1 ((rd_T79 l0_0 x3_1).f2)).bind fun t318 => (if t318 = true then (if x3_1 > 0 then (if 0 ≤ (wrap64 (x3_1 - 1)) then (if (wrap64 (x3_1 - 1)) < (l0_0.length : Int) then (spec_StockOk.j1 k1 x3_1 (decide (((rd_T79 l0_0 (wrap64 (x3_1 - 1))).f0) ≥ ((rd_T79 l0_0 x3_1).f0))) l0_0 ((rd_T79 l0_0 x3_1).f0) ((rd_T79 l0_0 x3_1).f1) ((rd_T79 l0_0 x3_1).f2)) else (none)) else (none)) else (spec_StockOk.j1 k1 x3_1 false l0_0 ((rd_T79 l0_0 x3_1).f0) ((rd_T79 l0_0 x3_1).f1) ((rd_T79 l0_0 x3_1).f2))) else (spec_StockOk.j1 k1 x3_1 true l0_0 ((rd_T79 l0_0 x3_1).f0) ((rd_T79 l0_0 x3_1).f1) ((rd_T79 l0_0 x3_1).f2)))) else (spec_StockOk.j1 k1 x3_1 true l0_0 ((rd_T79 l0_0 x3_1).f0) ((rd_T79 l0_0 x3_1).f1) ((rd_T79 l0_0 x3_1).f2)))) else (spec_StockOk.j1 k1 x3_1 true l0_0 ((rd_T79 l0_0 x3_1).f0) ((rd_T79 l0_0 x3_1).f1) ((rd_T79 l0_0 x3_1).f2))) = some r := H
    have A14 := aM A140
    clear A140
    by_cases c15 : t316 = true
    {
    subst c15
    rw [if_pos rfl] at H
    replace H := Option.bind_eq_some_iff.mp H
    obtain ⟨t317, A160, H⟩ := H
    replace H : (if t317 = true then ((spec_l5Stacks.f k1 ((rd_T79 l0_0 x3_1).f2)).bind fun t318 => (if t318 = true then (if x3_1 > 0 then (if 0 ≤ (wrap64 (x3_1 - 1)) then (if (wrap64 (x3_1 - 1)) < (l0_0.length : Int) then (spec_StockOk.j1 k1 x3_1 (decide (((rd_T79 l0_0 (wrap64 (x3_1 - 1))).f0) ≥ ((rd_T79 l0_0 x3_1).f0))) l0_0 ((rd_T79 l0_0 x3_1).f0) ((rd_T79 l0_0 x3_1).f1) ((rd_T79 l0_0 x3_1).f2)) else (none)) else (none)) else (spec_StockOk.j1 k1 x3_1 false l0_0 ((rd_T79 l0_0 x3_1).f0) ((rd_T79 l0_0 x3_1).f1) ((rd_T79 l0_0 x3_1).f2))) else (spec_StockOk.j1 k1 x3_1 true l0_0 ((rd_T79 l0_0 x3_1).f0) ((rd_T79 l0_0 x3_1).f1) ((rd_T79 l0_0 x3_1).f2)))) else (spec_StockOk.j1 k1 x3_1 true l0_0 ((rd_T79 l0_0 x3_1).f0) ((rd_T79 l0_0 x3_1).f1) ((rd_T79 l0_0 x3_1).f2))) = some r := H
    have A16 := aM A160
    clear A160
    by_cases c17 : t317 = true
    {
    subst c17
    rw [if_pos rfl] at H
    replace H := Option.bind_eq_some_iff.mp H
    obtain ⟨t318, A180, H⟩ := H
    replace H : (if t318 = true then (if x3_1 > 0 then (if 0 ≤ (wrap64 (x3_1 - 1)) then (if (wrap64 (x3_1 - 1)) < (l0_0.length : Int) then (spec_StockOk.j1 k1 x3_1 (decide (((rd_T79 l0_0 (wrap64 (x3_1 - 1))).f0) ≥ ((rd_T79 l0_0 x3_1).f0))) l0_0 ((rd_T79 l0_0 x3_1).f0) ((rd_T79 l0_0 x3_1).f1) ((rd_T79 l0_0 x3_1).f2)) else (none)) else (none)) else (spec_StockOk.j1 k1 x3_1 false l0_0 ((rd_T79 l0_0 x3_1).f0) ((rd_T79 l0_0 x3_1).f1) ((rd_T79 l0_0 x3_1).f2))) else (spec_StockOk.j1 k1 x3_1 true l0_0 ((rd_T79 l0_0 x3_1).f0) ((rd_T79 l0_0 x3_1).f1) ((rd_T79 l0_0 x3_1).f2))) = some r := H
    have A18 := aM A180
    clear A180
    by_cases c19 : t318 = true
    {
    subst c19
    rw [if_pos rfl] at H
    by_cases c20 : x3_1 > 0
    {
    rw [if_pos c20] at H
    have c20b0 := decide_eq_true c20
    clear c20
    (first | rw [c20b0] | (simp only [i64_w, i32_w]; rw [c20b0]) | rw [@decide_eq_true _ _ (of_decide_eq_true c20b0)] | rw [@decide_eq_true _ _ (of_decide_eq_true c20b1)] | skip)
    obtain ⟨ji21, hji21⟩ : ∃ j_ : Int, (wrap64 (x3_1 - 1)) = j_ := ⟨_, rfl⟩
    replace H : (if 0 ≤ (ji21) then (if (ji21) < (l0_0.length : Int) then (spec_StockOk.j1 k1 x3_1 (decide (((rd_T79 l0_0 (ji21)).f0) ≥ ((rd_T79 l0_0 x3_1).f0))) l0_0 ((rd_T79 l0_0 x3_1).f0) ((rd_T79 l0_0 x3_1).f1) ((rd_T79 l0_0 x3_1).f2)) else (none)) else (none)) = some r := by first | (rw [hji21] at H; exact H) | (simp only [hji21] at H ⊢; exact H)
    (try rw [hji21] at A14)
    (try rw [hji21] at A16)
    (try rw [hji21] at A18)
    have hji21w : (IntKind.i64.wrap (x3_1 - 1)) = ji21 := (i64_w _).trans hji21
    by_cases c22 : 0 ≤ (ji21)
    {
    rw [if_pos c22] at H
    have c22b0 := decide_eq_true c22
    clear c22
    by_cases c23 : (ji21) < (l0_0.length : Int)
    {
    rw [if_pos c23] at H
    have c23b0 := decide_eq_true c23
    clear c23
    have H' := aM H
    clear H
    try go_wp2
    generalize hq_ : (((w11.setCell ⟨gb315, 0, none⟩ (.int .i64 ((rd_T79 l0_0 x3_1).f0))).setCell ⟨gb315, 1, none⟩ (.int .i64 ((rd_T79 l0_0 x3_1).f1))).setCell ⟨gb315, 2, none⟩ (.slice A314_2 ((rd_T79 l0_0 x3_1).f2).length c314_2)) = w24
    have n0_ : Aside0 (w24.heap[gb313]? = some (.cells #[.slice (some ad314) l0_0.length c0_0] 26 (0, 0))) := ⟨by rw [← hq_]; exact qz32⟩
    have n1_ : Aside0 (w24.heap[gb315]? = some (.cells #[.int .i64 ((rd_T79 l0_0 x3_1).f0), .int .i64 ((rd_T79 l0_0 x3_1).f1), .slice A314_2 ((rd_T79 l0_0 x3_1).f2).length c314_2] 79 (0, 0))) := ⟨by rw [← hq_]; exact (by (with_reducible repeat (first | refine blk_drewN ?_ _ | refine blk_drew ?_ | refine blk_alloc ?_ _)); refine blk_put (cs := #[.int .i64 ((rd_T79 l0_0 x3_1).f0), .int .i64 ((rd_T79 l0_0 x3_1).f1), .slice none 0 0]) ?_ 2 _ rfl; (with_reducible repeat (first | refine blk_drewN ?_ _ | refine blk_drew ?_ | refine blk_alloc ?_ _)); refine blk_put (cs := #[.int .i64 ((rd_T79 l0_0 x3_1).f0), .int .i64 0, .slice none 0 0]) ?_ 1 _ rfl; (with_reducible repeat (first | refine blk_drewN ?_ _ | refine blk_drew ?_ | refine blk_alloc ?_ _)); refine blk_put (cs := #[.int .i64 0, .int .i64 0, .slice none 0 0]) ?_ 0 _ rfl; exact bk_ BK315.out)⟩
    have n2_ : Aside0 (Below w.heap.size w w24) := ⟨by rw [← hq_]; exact qz26⟩
    (try clear BK313)
    (try clear BK315)
    (try clear HB)
    clear hq_
    have BK313 := n0_
    have BK315 := n1_
    have HB := n2_
    clear n0_ n1_ n2_
    have n0_ := aM (blk_drew BK313.out)
    have n1_ := aM (blk_drew BK315.out)
    have n2_ := aM (below_drew1 HB.out)
    clear BK313
    clear BK315
    clear HB
    have BK313 := n0_
    have BK315 := n1_
    have HB := n2_
    clear n0_ n1_ n2_
    have p319 : 0 ≤ ((ji21) : Int) := of_decide_eq_true qz4
    have q319 : (ji21) < (l0_0.length : Int) := of_decide_eq_true qz4
    obtain ⟨ad319, A319_2, c319_2, e319, hx319_0, hx319_1, hx319_2, hl319_2, hi319_2⟩ := at_T79 HR0_0.out (ji21) p319 q319
    have hw319_2 := hx319_2
    have hw319_1 := hx319_1
    have hw319_0 := hx319_0
    obtain rfl : ad314 = ad319 := (by injection e319)
    replace hx319_0 := pw_cell_below HB.out hx319_0
    replace hx319_1 := pw_cell_below HB.out hx319_1
    replace hx319_2 := pw_cell_below HB.out hx319_2
    have HR319_2 := aM hi319_2
    have HC319_2 := aM hl319_2
    clear hi319_2 hl319_2
    replace p319 := eq_true p319
    replace q319 := eq_true q319
    refine start_ (n := 32) (S := fun w' => w'.cell? ⟨gb315, 0, none⟩ = some (.int .i64 ((rd_T79 l0_0 x3_1).f0)) ∧ w'.cell? ⟨gb315, 1, none⟩ = some (.int .i64 ((rd_T79 l0_0 x3_1).f1)) ∧ w'.cell? ⟨gb315, 2, none⟩ = some (.slice A314_2 ((rd_T79 l0_0 x3_1).f2).length c314_2) ∧ w'.cell? ⟨gb313, 0, none⟩ = some (.slice (some ad314) l0_0.length c0_0) ∧ w'.cell? (ad314.add (((ji21)).toNat * 3)) = some (.int .i64 ((rd_T79 l0_0 (ji21)).f0)) ∧ w'.cell? ⟨(ad314.add (((ji21)).toNat * 3)).block, (ad314.add (((ji21)).toNat * 3)).off + 1, none⟩ = some (.int .i64 ((rd_T79 l0_0 (ji21)).f1)) ∧ w'.cell? ⟨(ad314.add (((ji21)).toNat * 3)).block, (ad314.add (((ji21)).toNat * 3)).off + 2, none⟩ = some (.slice A319_2 ((rd_T79 l0_0 (ji21)).f2).length c319_2)) (ds := []) #[false, false, false, false, false, false, false, false, false, false, false, false, false, false, false, false, false, false, false, false, false, false, false, false, false, false, false, false, false, false, false, false] (by kernel_rfl) rfl rfl ⟨(blk_cell BK315.out 0).trans rfl, (blk_cell BK315.out 1).trans rfl, (blk_cell BK315.out 2).trans rfl, (blk_cell BK313.out 0).trans rfl, (pw_cell_below HB.out hw319_0), (pw_cell_below HB.out hw319_1), (pw_cell_below HB.out hw319_2)⟩ (fun hHeld => ?_); refine with_tabW spec_StockOk.tab7 spec_StockOk.bits7 (fun HT_ HW_ => ?_)
    generalize w24.drew = w25 at BK313 BK315 HB HR319_2 hx319_0 hx319_1 hx319_2 hHeld ⊢
    refine pI_ 0 22 (bqz 32 1) ?_
    refine tI7_ 1 23 (bqz 32 3) ?_
    refine one_ (i := 2) (N := some 24) (bqz 32 7) rfl rfl qzc (by decide) (fun K hK => ?_)
    refine goes_ Try.func81 (by kernel_rfl) rfl #[.int .i64 ((rd_T79 l0_0 x3_1).f0), .int .i64 1, .int .i64 999] (by rfl) rfl rfl qz1 ?_
    with_reducible refine (spec_l1In.calls ((rd_T79 l0_0 x3_1).f0) 1 999 true _ A14.out).mono ?_
    rintro e w' ⟨rfl, ⟨nd, rfl⟩⟩
    refine ⟨_, rfl, ?_⟩
    refine hK.out _ _ ⟨(blk_cell BK315.out 0).trans rfl, (blk_cell BK315.out 1).trans rfl, (blk_cell BK315.out 2).trans rfl, (blk_cell BK313.out 0).trans rfl, (pw_cell_below HB.out hw319_0), (pw_cell_below HB.out hw319_1), (pw_cell_below HB.out hw319_2)⟩ (fun hHeld => ?_)
    clear hK K
    refine norm_ (a' := ?_) ?_ ?_
    rotate_left
    {
    show Act.put _ (some 24) _ = _
    simp only [qzs]
    rfl
    }
    refine pI_ 3 25 (bqz 32 15) ?_
    refine pI_ 4 26 (bqz 32 31) ?_
    refine pI_ 5 27 (bqz 32 63) ?_
    refine tI7_ 6 28 (bqz 32 127) ?_
    refine one_ (i := 7) (N := some 29) (bqz 32 255) rfl rfl qzc (by decide) (fun K hK => ?_)
    refine goes_ Try.func81 (by kernel_rfl) rfl #[.int .i64 ((rd_T79 l0_0 x3_1).f1), .int .i64 0, .int .i64 99] (by rfl) rfl rfl qz1 ?_
    with_reducible refine (spec_l1In.calls ((rd_T79 l0_0 x3_1).f1) 0 99 true _ A16.out).mono ?_
    rintro e w' ⟨rfl, ⟨nd, rfl⟩⟩
    refine ⟨_, rfl, ?_⟩
    refine hK.out _ _ ⟨(blk_cell BK315.out 0).trans rfl, (blk_cell BK315.out 1).trans rfl, (blk_cell BK315.out 2).trans rfl, (blk_cell BK313.out 0).trans rfl, (pw_cell_below HB.out hw319_0), (pw_cell_below HB.out hw319_1), (pw_cell_below HB.out hw319_2)⟩ (fun hHeld => ?_)
    clear hK K
    refine norm_ (a' := ?_) ?_ ?_
    rotate_left
    {
    show Act.put _ (some 29) _ = _
    simp only [qzs]
    rfl
    }
    refine pI_ 8 30 (bqz 32 511) ?_
    refine pI_ 9 31 (bqz 32 1023) ?_
    refine pI_ 10 32 (bqz 32 2047) ?_
    refine pI_ 11 33 (bqz 32 4095) ?_
    refine tI7_ 12 34 (bqz 32 8191) ?_
    refine one_ (i := 13) (N := some 35) (bqz 32 16383) rfl rfl qzc (by decide) (fun K hK => ?_)
    refine goes_ Try.func82 (by kernel_rfl) rfl #[.slice A314_2 ((rd_T79 l0_0 x3_1).f2).length c314_2] (by rfl) rfl rfl qz1 ?_
    with_reducible refine (spec_l5Stacks.calls k1 _ _ ((rd_T79 l0_0 x3_1).f2) true _ ?side1 ?side2 A18.out).mono ?_
    (case side1 => exact qz101)
    (case side2 => exact HC314_2.out)
    rintro e w26 ⟨rfl, hb⟩
    refine ⟨_, rfl, ?_⟩
    have n0_ := aM (blk_below (bk_ BK313.out) hb)
    have n1_ := aM (blk_below (bk_ BK315.out) hb)
    have n2_ := aM (below_step qz26 hb)
    clear BK313
    clear BK315
    clear HB
    have BK313 := n0_
    have BK315 := n1_
    have HB := n2_
    clear n0_ n1_ n2_
    (try clear hb)
    (try clear hb2)
    (try clear hk)
    (try clear hi)
    refine hK.out _ _ ⟨(blk_cell BK315.out 0).trans rfl, (blk_cell BK315.out 1).trans rfl, (blk_cell BK315.out 2).trans rfl, (blk_cell BK313.out 0).trans rfl, (pw_cell_below HB.out hw319_0), (pw_cell_below HB.out hw319_1), (pw_cell_below HB.out hw319_2)⟩ (fun hHeld => ?_)
    clear hK K
    refine norm_ (a' := ?_) ?_ ?_
    rotate_left
    {
    show Act.put _ (some 35) _ = _
    simp only [qzs]
    rfl
    }
    refine pI_ 14 36 (bqz 32 32767) ?_
    refine pI_ 15 37 (bqz 32 65535) ?_
    refine pI_ 16 38 (bqz 32 131071) ?_
    refine pI_ 17 39 (bqz 32 262143) ?_
    refine pI_ 18 40 (bqz 32 524287) ?_
    refine pI_ 19 41 (bqz 32 1048575) ?_
    refine pI_ 20 42 (bqz 32 2097151) ?_
    refine pI_ 22 44 (bqz 32 6291455) ?_
    refine pI_ 23 45 (bqz 32 14680063) ?_
    refine pI_ 27 49 (bqz 32 148897791) ?_
    refine tI7_ 21 43 (bqz 32 150994943) ?_
    refine pI_ 24 46 (bqz 32 167772159) ?_
    refine pI_ 25 47 (bqz 32 201326591) ?_
    refine tI7_ 26 48 (bqz 32 268435455) ?_
    refine tI7_ 28 50 (bqz 32 536870911) ?_
    refine pI_ 29 51 (bqz 32 1073741823) ?_
    refine pI_ 30 52 (bqz 32 2147483647) ?_
    refine pI_ 31 53 (bqz 32 4294967295) ?_
    refine done_ (done_of HT_.out (by kernel_rfl)) ?_
    try go_wp2
    go_meet
    case rel => exact ⟨_, (decide (((rd_T79 l0_0 (ji21)).f0) ≥ ((rd_T79 l0_0 x3_1).f0))), (by first | rfl | (simp; done) | (simp only [← hji21] <;> (first | rfl | simp)) | (simp [*]; done)), H', ⟨by have := HK1.out; first | omega | exact Nat.le_refl _⟩, ⟨bk_ BK313.out⟩, ⟨bk_ BK315.out⟩, ⟨by repeat (first | (with_reducible first | exact HB.out | apply below_alloc | apply pw_below_drewN | apply below_drew1 | refine below_set ?_ GE313.out | refine below_set ?_ GE315.out) | exact HB.out)⟩⟩
    }
    {
    rw [if_neg c23] at H
    exact absurd H (by simp)
    }
    }
    {
    rw [if_neg c22] at H
    exact absurd H (by simp)
    }
    }
    {
    rw [if_neg c20] at H
    have c20b0 := decide_eq_false c20
    clear c20
    (first | rw [c20b0] | (simp only [i64_w, i32_w]; rw [c20b0]) | rw [@decide_eq_false _ _ (of_decide_eq_false c20b0)] | rw [@decide_eq_false _ _ (of_decide_eq_false c20b1)] | skip)
    have H' := aM H
    clear H
    try go_wp2
    generalize hq_ : (((w11.setCell ⟨gb315, 0, none⟩ (.int .i64 ((rd_T79 l0_0 x3_1).f0))).setCell ⟨gb315, 1, none⟩ (.int .i64 ((rd_T79 l0_0 x3_1).f1))).setCell ⟨gb315, 2, none⟩ (.slice A314_2 ((rd_T79 l0_0 x3_1).f2).length c314_2)) = w27
    have n0_ : Aside0 (w27.heap[gb313]? = some (.cells #[.slice (some ad314) l0_0.length c0_0] 26 (0, 0))) := ⟨by rw [← hq_]; exact qz32⟩
    have n1_ : Aside0 (w27.heap[gb315]? = some (.cells #[.int .i64 ((rd_T79 l0_0 x3_1).f0), .int .i64 ((rd_T79 l0_0 x3_1).f1), .slice A314_2 ((rd_T79 l0_0 x3_1).f2).length c314_2] 79 (0, 0))) := ⟨by rw [← hq_]; exact (by (with_reducible repeat (first | refine blk_drewN ?_ _ | refine blk_drew ?_ | refine blk_alloc ?_ _)); refine blk_put (cs := #[.int .i64 ((rd_T79 l0_0 x3_1).f0), .int .i64 ((rd_T79 l0_0 x3_1).f1), .slice none 0 0]) ?_ 2 _ rfl; (with_reducible repeat (first | refine blk_drewN ?_ _ | refine blk_drew ?_ | refine blk_alloc ?_ _)); refine blk_put (cs := #[.int .i64 ((rd_T79 l0_0 x3_1).f0), .int .i64 0, .slice none 0 0]) ?_ 1 _ rfl; (with_reducible repeat (first | refine blk_drewN ?_ _ | refine blk_drew ?_ | refine blk_alloc ?_ _)); refine blk_put (cs := #[.int .i64 0, .int .i64 0, .slice none 0 0]) ?_ 0 _ rfl; exact bk_ BK315.out)⟩
    have n2_ : Aside0 (Below w.heap.size w w27) := ⟨by rw [← hq_]; exact qz26⟩
    (try clear BK313)
    (try clear BK315)
    (try clear HB)
    clear hq_
    have BK313 := n0_
    have BK315 := n1_
    have HB := n2_
    clear n0_ n1_ n2_
    have n0_ := aM (blk_drew BK313.out)
    have n1_ := aM (blk_drew BK315.out)
    have n2_ := aM (below_drew1 HB.out)
    clear BK313
    clear BK315
    clear HB
    have BK313 := n0_
    have BK315 := n1_
    have HB := n2_
    clear n0_ n1_ n2_
    refine start_ (n := 32) (S := fun w' => w'.cell? ⟨gb315, 0, none⟩ = some (.int .i64 ((rd_T79 l0_0 x3_1).f0)) ∧ w'.cell? ⟨gb315, 1, none⟩ = some (.int .i64 ((rd_T79 l0_0 x3_1).f1)) ∧ w'.cell? ⟨gb315, 2, none⟩ = some (.slice A314_2 ((rd_T79 l0_0 x3_1).f2).length c314_2)) (ds := []) #[false, false, false, false, false, false, false, false, false, false, false, false, false, false, false, false, false, false, false, false, false, false, false, false, false, false, false, false, false, false, false, false] (by kernel_rfl) rfl rfl ⟨(blk_cell BK315.out 0).trans rfl, (blk_cell BK315.out 1).trans rfl, (blk_cell BK315.out 2).trans rfl⟩ (fun hHeld => ?_); refine with_tabW spec_StockOk.tab7 spec_StockOk.bits7 (fun HT_ HW_ => ?_)
    generalize w27.drew = w28 at BK313 BK315 HB hHeld ⊢
    refine pI_ 0 22 (bqz 32 1) ?_
    refine tI3_ 1 23 (bqz 32 3) ?_
    refine one_ (i := 2) (N := some 24) (bqz 32 7) rfl rfl qzc (by decide) (fun K hK => ?_)
    refine goes_ Try.func81 (by kernel_rfl) rfl #[.int .i64 ((rd_T79 l0_0 x3_1).f0), .int .i64 1, .int .i64 999] (by rfl) rfl rfl qz1 ?_
    with_reducible refine (spec_l1In.calls ((rd_T79 l0_0 x3_1).f0) 1 999 true _ A14.out).mono ?_
    rintro e w' ⟨rfl, ⟨nd, rfl⟩⟩
    refine ⟨_, rfl, ?_⟩
    refine hK.out _ _ ⟨(blk_cell BK315.out 0).trans rfl, (blk_cell BK315.out 1).trans rfl, (blk_cell BK315.out 2).trans rfl⟩ (fun hHeld => ?_)
    clear hK K
    refine norm_ (a' := ?_) ?_ ?_
    rotate_left
    {
    show Act.put _ (some 24) _ = _
    simp only [qzs]
    rfl
    }
    refine pI_ 3 25 (bqz 32 15) ?_
    refine pI_ 4 26 (bqz 32 31) ?_
    refine pI_ 5 27 (bqz 32 63) ?_
    refine tI3_ 6 28 (bqz 32 127) ?_
    refine one_ (i := 7) (N := some 29) (bqz 32 255) rfl rfl qzc (by decide) (fun K hK => ?_)
    refine goes_ Try.func81 (by kernel_rfl) rfl #[.int .i64 ((rd_T79 l0_0 x3_1).f1), .int .i64 0, .int .i64 99] (by rfl) rfl rfl qz1 ?_
    with_reducible refine (spec_l1In.calls ((rd_T79 l0_0 x3_1).f1) 0 99 true _ A16.out).mono ?_
    rintro e w' ⟨rfl, ⟨nd, rfl⟩⟩
    refine ⟨_, rfl, ?_⟩
    refine hK.out _ _ ⟨(blk_cell BK315.out 0).trans rfl, (blk_cell BK315.out 1).trans rfl, (blk_cell BK315.out 2).trans rfl⟩ (fun hHeld => ?_)
    clear hK K
    refine norm_ (a' := ?_) ?_ ?_
    rotate_left
    {
    show Act.put _ (some 29) _ = _
    simp only [qzs]
    rfl
    }
    refine pI_ 8 30 (bqz 32 511) ?_
    refine pI_ 9 31 (bqz 32 1023) ?_
    refine pI_ 10 32 (bqz 32 2047) ?_
    refine pI_ 11 33 (bqz 32 4095) ?_
    refine tI3_ 12 34 (bqz 32 8191) ?_
    refine one_ (i := 13) (N := some 35) (bqz 32 16383) rfl rfl qzc (by decide) (fun K hK => ?_)
    refine goes_ Try.func82 (by kernel_rfl) rfl #[.slice A314_2 ((rd_T79 l0_0 x3_1).f2).length c314_2] (by rfl) rfl rfl qz1 ?_
    with_reducible refine (spec_l5Stacks.calls k1 _ _ ((rd_T79 l0_0 x3_1).f2) true _ ?side1 ?side2 A18.out).mono ?_
    (case side1 => exact qz101)
    (case side2 => exact HC314_2.out)
    rintro e w29 ⟨rfl, hb⟩
    refine ⟨_, rfl, ?_⟩
    have n0_ := aM (blk_below (bk_ BK313.out) hb)
    have n1_ := aM (blk_below (bk_ BK315.out) hb)
    have n2_ := aM (below_step qz26 hb)
    clear BK313
    clear BK315
    clear HB
    have BK313 := n0_
    have BK315 := n1_
    have HB := n2_
    clear n0_ n1_ n2_
    (try clear hb)
    (try clear hb2)
    (try clear hk)
    (try clear hi)
    refine hK.out _ _ ⟨(blk_cell BK315.out 0).trans rfl, (blk_cell BK315.out 1).trans rfl, (blk_cell BK315.out 2).trans rfl⟩ (fun hHeld => ?_)
    clear hK K
    refine norm_ (a' := ?_) ?_ ?_
    rotate_left
    {
    show Act.put _ (some 35) _ = _
    simp only [qzs]
    rfl
    }
    refine pI_ 14 36 (bqz 32 32767) ?_
    refine pI_ 15 37 (bqz 32 65535) ?_
    refine pI_ 16 38 (bqz 32 131071) ?_
    refine pI_ 17 39 (bqz 32 262143) ?_
    refine pI_ 18 40 (bqz 32 524287) ?_
    refine pI_ 19 41 (bqz 32 1048575) ?_
    refine pU_ 20 42 (bqz 32 2097151) ?_
    refine pU_ 21 43 (bqz 32 4194303) ?_
    refine pU_ 22 44 (bqz 32 8388607) ?_
    refine pU_ 23 45 (bqz 32 16777215) ?_
    refine pU_ 24 46 (bqz 32 33554431) ?_
    refine pU_ 25 47 (bqz 32 67108863) ?_
    refine pU_ 26 48 (bqz 32 134217727) ?_
    refine pU_ 27 49 (bqz 32 268435455) ?_
    refine pU_ 28 50 (bqz 32 536870911) ?_
    refine pU_ 29 51 (bqz 32 1073741823) ?_
    refine pI_ 30 52 (bqz 32 2147483647) ?_
    refine pI_ 31 53 (bqz 32 4294967295) ?_
    refine done_ (done_of HT_.out (by kernel_rfl)) ?_
    try go_wp2
    go_meet
    case rel => exact ⟨_, (false), qz13, H', ⟨by have := HK1.out; first | omega | exact Nat.le_refl _⟩, ⟨bk_ BK313.out⟩, ⟨bk_ BK315.out⟩, ⟨by repeat (first | (with_reducible first | exact HB.out | apply below_alloc | apply pw_below_drewN | apply below_drew1 | refine below_set ?_ GE313.out | refine below_set ?_ GE315.out) | exact HB.out)⟩⟩
    }
    }
    {
    replace c19 := Bool.eq_false_iff.mpr c19
    subst c19
    rw [if_neg (show ¬ (false = true) by decide)] at H
    have H' := aM H
    clear H
    try go_wp2
    generalize hq_ : (((w11.setCell ⟨gb315, 0, none⟩ (.int .i64 ((rd_T79 l0_0 x3_1).f0))).setCell ⟨gb315, 1, none⟩ (.int .i64 ((rd_T79 l0_0 x3_1).f1))).setCell ⟨gb315, 2, none⟩ (.slice A314_2 ((rd_T79 l0_0 x3_1).f2).length c314_2)) = w30
    have n0_ : Aside0 (w30.heap[gb313]? = some (.cells #[.slice (some ad314) l0_0.length c0_0] 26 (0, 0))) := ⟨by rw [← hq_]; exact qz32⟩
    have n1_ : Aside0 (w30.heap[gb315]? = some (.cells #[.int .i64 ((rd_T79 l0_0 x3_1).f0), .int .i64 ((rd_T79 l0_0 x3_1).f1), .slice A314_2 ((rd_T79 l0_0 x3_1).f2).length c314_2] 79 (0, 0))) := ⟨by rw [← hq_]; exact (by (with_reducible repeat (first | refine blk_drewN ?_ _ | refine blk_drew ?_ | refine blk_alloc ?_ _)); refine blk_put (cs := #[.int .i64 ((rd_T79 l0_0 x3_1).f0), .int .i64 ((rd_T79 l0_0 x3_1).f1), .slice none 0 0]) ?_ 2 _ rfl; (with_reducible repeat (first | refine blk_drewN ?_ _ | refine blk_drew ?_ | refine blk_alloc ?_ _)); refine blk_put (cs := #[.int .i64 ((rd_T79 l0_0 x3_1).f0), .int .i64 0, .slice none 0 0]) ?_ 1 _ rfl; (with_reducible repeat (first | refine blk_drewN ?_ _ | refine blk_drew ?_ | refine blk_alloc ?_ _)); refine blk_put (cs := #[.int .i64 0, .int .i64 0, .slice none 0 0]) ?_ 0 _ rfl; exact bk_ BK315.out)⟩
    have n2_ : Aside0 (Below w.heap.size w w30) := ⟨by rw [← hq_]; exact qz26⟩
    (try clear BK313)
    (try clear BK315)
    (try clear HB)
    clear hq_
    have BK313 := n0_
    have BK315 := n1_
    have HB := n2_
    clear n0_ n1_ n2_
    have n0_ := aM (blk_drew BK313.out)
    have n1_ := aM (blk_drew BK315.out)
    have n2_ := aM (below_drew1 HB.out)
    clear BK313
    clear BK315
    clear HB
    have BK313 := n0_
    have BK315 := n1_
    have HB := n2_
    clear n0_ n1_ n2_
    refine start_ (n := 32) (S := fun w' => w'.cell? ⟨gb315, 0, none⟩ = some (.int .i64 ((rd_T79 l0_0 x3_1).f0)) ∧ w'.cell? ⟨gb315, 1, none⟩ = some (.int .i64 ((rd_T79 l0_0 x3_1).f1)) ∧ w'.cell? ⟨gb315, 2, none⟩ = some (.slice A314_2 ((rd_T79 l0_0 x3_1).f2).length c314_2)) (ds := []) #[false, false, false, false, false, false, false, false, false, false, false, false, false, false, false, false, false, false, false, false, false, false, false, false, false, false, false, false, false, false, false, false] (by kernel_rfl) rfl rfl ⟨(blk_cell BK315.out 0).trans rfl, (blk_cell BK315.out 1).trans rfl, (blk_cell BK315.out 2).trans rfl⟩ (fun hHeld => ?_); refine with_tabW spec_StockOk.tab7 spec_StockOk.bits7 (fun HT_ HW_ => ?_)
    generalize w30.drew = w31 at BK313 BK315 HB hHeld ⊢
    refine pI_ 0 22 (bqz 32 1) ?_
    refine tI3_ 1 23 (bqz 32 3) ?_
    refine one_ (i := 2) (N := some 24) (bqz 32 7) rfl rfl qzc (by decide) (fun K hK => ?_)
    refine goes_ Try.func81 (by kernel_rfl) rfl #[.int .i64 ((rd_T79 l0_0 x3_1).f0), .int .i64 1, .int .i64 999] (by rfl) rfl rfl qz1 ?_
    with_reducible refine (spec_l1In.calls ((rd_T79 l0_0 x3_1).f0) 1 999 true _ A14.out).mono ?_
    rintro e w' ⟨rfl, ⟨nd, rfl⟩⟩
    refine ⟨_, rfl, ?_⟩
    refine hK.out _ _ ⟨(blk_cell BK315.out 0).trans rfl, (blk_cell BK315.out 1).trans rfl, (blk_cell BK315.out 2).trans rfl⟩ (fun hHeld => ?_)
    clear hK K
    refine norm_ (a' := ?_) ?_ ?_
    rotate_left
    {
    show Act.put _ (some 24) _ = _
    simp only [qzs]
    rfl
    }
    refine pI_ 3 25 (bqz 32 15) ?_
    refine pI_ 4 26 (bqz 32 31) ?_
    refine pI_ 5 27 (bqz 32 63) ?_
    refine tI3_ 6 28 (bqz 32 127) ?_
    refine one_ (i := 7) (N := some 29) (bqz 32 255) rfl rfl qzc (by decide) (fun K hK => ?_)
    refine goes_ Try.func81 (by kernel_rfl) rfl #[.int .i64 ((rd_T79 l0_0 x3_1).f1), .int .i64 0, .int .i64 99] (by rfl) rfl rfl qz1 ?_
    with_reducible refine (spec_l1In.calls ((rd_T79 l0_0 x3_1).f1) 0 99 true _ A16.out).mono ?_
    rintro e w' ⟨rfl, ⟨nd, rfl⟩⟩
    refine ⟨_, rfl, ?_⟩
    refine hK.out _ _ ⟨(blk_cell BK315.out 0).trans rfl, (blk_cell BK315.out 1).trans rfl, (blk_cell BK315.out 2).trans rfl⟩ (fun hHeld => ?_)
    clear hK K
    refine norm_ (a' := ?_) ?_ ?_
    rotate_left
    {
    show Act.put _ (some 29) _ = _
    simp only [qzs]
    rfl
    }
    refine pI_ 8 30 (bqz 32 511) ?_
    refine pI_ 9 31 (bqz 32 1023) ?_
    refine pI_ 10 32 (bqz 32 2047) ?_
    refine pI_ 11 33 (bqz 32 4095) ?_
    refine tI3_ 12 34 (bqz 32 8191) ?_
    refine one_ (i := 13) (N := some 35) (bqz 32 16383) rfl rfl qzc (by decide) (fun K hK => ?_)
    refine goes_ Try.func82 (by kernel_rfl) rfl #[.slice A314_2 ((rd_T79 l0_0 x3_1).f2).length c314_2] (by rfl) rfl rfl qz1 ?_
    with_reducible refine (spec_l5Stacks.calls k1 _ _ ((rd_T79 l0_0 x3_1).f2) false _ ?side1 ?side2 A18.out).mono ?_
    (case side1 => exact qz101)
    (case side2 => exact HC314_2.out)
    rintro e w32 ⟨rfl, hb⟩
    refine ⟨_, rfl, ?_⟩
    have n0_ := aM (blk_below (bk_ BK313.out) hb)
    have n1_ := aM (blk_below (bk_ BK315.out) hb)
    have n2_ := aM (below_step qz26 hb)
    clear BK313
    clear BK315
    clear HB
    have BK313 := n0_
    have BK315 := n1_
    have HB := n2_
    clear n0_ n1_ n2_
    (try clear hb)
    (try clear hb2)
    (try clear hk)
    (try clear hi)
    refine hK.out _ _ ⟨(blk_cell BK315.out 0).trans rfl, (blk_cell BK315.out 1).trans rfl, (blk_cell BK315.out 2).trans rfl⟩ (fun hHeld => ?_)
    clear hK K
    refine norm_ (a' := ?_) ?_ ?_
    rotate_left
    {
    show Act.put _ (some 35) _ = _
    simp only [qzs]
    rfl
    }
    refine pI_ 14 36 (bqz 32 32767) ?_
    refine pI_ 15 37 (bqz 32 65535) ?_
    refine pI_ 16 38 (bqz 32 131071) ?_
    refine pU_ 17 39 (bqz 32 262143) ?_
    refine pU_ 18 40 (bqz 32 524287) ?_
    refine pU_ 19 41 (bqz 32 1048575) ?_
    refine pU_ 20 42 (bqz 32 2097151) ?_
    refine pU_ 21 43 (bqz 32 4194303) ?_
    refine pU_ 22 44 (bqz 32 8388607) ?_
    refine pU_ 23 45 (bqz 32 16777215) ?_
    refine pU_ 24 46 (bqz 32 33554431) ?_
    refine pU_ 25 47 (bqz 32 67108863) ?_
    refine pU_ 26 48 (bqz 32 134217727) ?_
    refine pU_ 27 49 (bqz 32 268435455) ?_
    refine pU_ 28 50 (bqz 32 536870911) ?_
    refine pU_ 29 51 (bqz 32 1073741823) ?_
    refine pU_ 30 52 (bqz 32 2147483647) ?_
    refine pI_ 31 53 (bqz 32 4294967295) ?_
    refine done_ (done_of HT_.out (by kernel_rfl)) ?_
    try go_wp2
    go_meet
    case rel => exact ⟨_, (true), qz13, H', ⟨by have := HK1.out; first | omega | exact Nat.le_refl _⟩, ⟨bk_ BK313.out⟩, ⟨bk_ BK315.out⟩, ⟨by repeat (first | (with_reducible first | exact HB.out | apply below_alloc | apply pw_below_drewN | apply below_drew1 | refine below_set ?_ GE313.out | refine below_set ?_ GE315.out) | exact HB.out)⟩⟩
    }
    }
    {
    replace c17 := Bool.eq_false_iff.mpr c17
    subst c17
    rw [if_neg (show ¬ (false = true) by decide)] at H
    have H' := aM H
    clear H
    try go_wp2
    generalize hq_ : (((w11.setCell ⟨gb315, 0, none⟩ (.int .i64 ((rd_T79 l0_0 x3_1).f0))).setCell ⟨gb315, 1, none⟩ (.int .i64 ((rd_T79 l0_0 x3_1).f1))).setCell ⟨gb315, 2, none⟩ (.slice A314_2 ((rd_T79 l0_0 x3_1).f2).length c314_2)) = w33
    have n0_ : Aside0 (w33.heap[gb313]? = some (.cells #[.slice (some ad314) l0_0.length c0_0] 26 (0, 0))) := ⟨by rw [← hq_]; exact qz32⟩
    have n1_ : Aside0 (w33.heap[gb315]? = some (.cells #[.int .i64 ((rd_T79 l0_0 x3_1).f0), .int .i64 ((rd_T79 l0_0 x3_1).f1), .slice A314_2 ((rd_T79 l0_0 x3_1).f2).length c314_2] 79 (0, 0))) := ⟨by rw [← hq_]; exact (by (with_reducible repeat (first | refine blk_drewN ?_ _ | refine blk_drew ?_ | refine blk_alloc ?_ _)); refine blk_put (cs := #[.int .i64 ((rd_T79 l0_0 x3_1).f0), .int .i64 ((rd_T79 l0_0 x3_1).f1), .slice none 0 0]) ?_ 2 _ rfl; (with_reducible repeat (first | refine blk_drewN ?_ _ | refine blk_drew ?_ | refine blk_alloc ?_ _)); refine blk_put (cs := #[.int .i64 ((rd_T79 l0_0 x3_1).f0), .int .i64 0, .slice none 0 0]) ?_ 1 _ rfl; (with_reducible repeat (first | refine blk_drewN ?_ _ | refine blk_drew ?_ | refine blk_alloc ?_ _)); refine blk_put (cs := #[.int .i64 0, .int .i64 0, .slice none 0 0]) ?_ 0 _ rfl; exact bk_ BK315.out)⟩
    have n2_ : Aside0 (Below w.heap.size w w33) := ⟨by rw [← hq_]; exact qz26⟩
    (try clear BK313)
    (try clear BK315)
    (try clear HB)
    clear hq_
    have BK313 := n0_
    have BK315 := n1_
    have HB := n2_
    clear n0_ n1_ n2_
    have n0_ := aM (blk_drew BK313.out)
    have n1_ := aM (blk_drew BK315.out)
    have n2_ := aM (below_drew1 HB.out)
    clear BK313
    clear BK315
    clear HB
    have BK313 := n0_
    have BK315 := n1_
    have HB := n2_
    clear n0_ n1_ n2_
    refine start_ (n := 32) (S := fun w' => w'.cell? ⟨gb315, 0, none⟩ = some (.int .i64 ((rd_T79 l0_0 x3_1).f0)) ∧ w'.cell? ⟨gb315, 1, none⟩ = some (.int .i64 ((rd_T79 l0_0 x3_1).f1)) ∧ w'.cell? ⟨gb315, 2, none⟩ = some (.slice A314_2 ((rd_T79 l0_0 x3_1).f2).length c314_2)) (ds := []) #[false, false, false, false, false, false, false, false, false, false, false, false, false, false, false, false, false, false, false, false, false, false, false, false, false, false, false, false, false, false, false, false] (by kernel_rfl) rfl rfl ⟨(blk_cell BK315.out 0).trans rfl, (blk_cell BK315.out 1).trans rfl, (blk_cell BK315.out 2).trans rfl⟩ (fun hHeld => ?_); refine with_tabW spec_StockOk.tab7 spec_StockOk.bits7 (fun HT_ HW_ => ?_)
    generalize w33.drew = w34 at BK313 BK315 HB hHeld ⊢
    refine pI_ 0 22 (bqz 32 1) ?_
    refine tI3_ 1 23 (bqz 32 3) ?_
    refine one_ (i := 2) (N := some 24) (bqz 32 7) rfl rfl qzc (by decide) (fun K hK => ?_)
    refine goes_ Try.func81 (by kernel_rfl) rfl #[.int .i64 ((rd_T79 l0_0 x3_1).f0), .int .i64 1, .int .i64 999] (by rfl) rfl rfl qz1 ?_
    with_reducible refine (spec_l1In.calls ((rd_T79 l0_0 x3_1).f0) 1 999 true _ A14.out).mono ?_
    rintro e w' ⟨rfl, ⟨nd, rfl⟩⟩
    refine ⟨_, rfl, ?_⟩
    refine hK.out _ _ ⟨(blk_cell BK315.out 0).trans rfl, (blk_cell BK315.out 1).trans rfl, (blk_cell BK315.out 2).trans rfl⟩ (fun hHeld => ?_)
    clear hK K
    refine norm_ (a' := ?_) ?_ ?_
    rotate_left
    {
    show Act.put _ (some 24) _ = _
    simp only [qzs]
    rfl
    }
    refine pI_ 3 25 (bqz 32 15) ?_
    refine pI_ 4 26 (bqz 32 31) ?_
    refine pI_ 5 27 (bqz 32 63) ?_
    refine tI3_ 6 28 (bqz 32 127) ?_
    refine one_ (i := 7) (N := some 29) (bqz 32 255) rfl rfl qzc (by decide) (fun K hK => ?_)
    refine goes_ Try.func81 (by kernel_rfl) rfl #[.int .i64 ((rd_T79 l0_0 x3_1).f1), .int .i64 0, .int .i64 99] (by rfl) rfl rfl qz1 ?_
    with_reducible refine (spec_l1In.calls ((rd_T79 l0_0 x3_1).f1) 0 99 false _ A16.out).mono ?_
    rintro e w' ⟨rfl, ⟨nd, rfl⟩⟩
    refine ⟨_, rfl, ?_⟩
    refine hK.out _ _ ⟨(blk_cell BK315.out 0).trans rfl, (blk_cell BK315.out 1).trans rfl, (blk_cell BK315.out 2).trans rfl⟩ (fun hHeld => ?_)
    clear hK K
    refine norm_ (a' := ?_) ?_ ?_
    rotate_left
    {
    show Act.put _ (some 29) _ = _
    simp only [qzs]
    rfl
    }
    refine pI_ 8 30 (bqz 32 511) ?_
    refine pI_ 9 31 (bqz 32 1023) ?_
    refine pI_ 10 32 (bqz 32 2047) ?_
    refine pU_ 11 33 (bqz 32 4095) ?_
    refine pU_ 12 34 (bqz 32 8191) ?_
    refine pU_ 13 35 (bqz 32 16383) ?_
    refine pU_ 14 36 (bqz 32 32767) ?_
    refine pI_ 15 37 (bqz 32 65535) ?_
    refine pI_ 16 38 (bqz 32 131071) ?_
    refine pU_ 17 39 (bqz 32 262143) ?_
    refine pU_ 18 40 (bqz 32 524287) ?_
    refine pU_ 19 41 (bqz 32 1048575) ?_
    refine pU_ 20 42 (bqz 32 2097151) ?_
    refine pU_ 21 43 (bqz 32 4194303) ?_
    refine pU_ 22 44 (bqz 32 8388607) ?_
    refine pU_ 23 45 (bqz 32 16777215) ?_
    refine pU_ 24 46 (bqz 32 33554431) ?_
    refine pU_ 25 47 (bqz 32 67108863) ?_
    refine pU_ 26 48 (bqz 32 134217727) ?_
    refine pU_ 27 49 (bqz 32 268435455) ?_
    refine pU_ 28 50 (bqz 32 536870911) ?_
    refine pU_ 29 51 (bqz 32 1073741823) ?_
    refine pU_ 30 52 (bqz 32 2147483647) ?_
    refine pI_ 31 53 (bqz 32 4294967295) ?_
    refine done_ (done_of HT_.out (by kernel_rfl)) ?_
    try go_wp2
    go_meet
    case rel => exact ⟨_, (true), qz13, H', ⟨by have := HK1.out; first | omega | exact Nat.le_refl _⟩, ⟨bk_ BK313.out⟩, ⟨bk_ BK315.out⟩, ⟨by repeat (first | (with_reducible first | exact HB.out | apply below_alloc | apply pw_below_drewN | apply below_drew1 | refine below_set ?_ GE313.out | refine below_set ?_ GE315.out) | exact HB.out)⟩⟩
    }
    }
    {
    replace c15 := Bool.eq_false_iff.mpr c15
    subst c15
    rw [if_neg (show ¬ (false = true) by decide)] at H
    have H' := aM H
    clear H
    try go_wp2
    generalize hq_ : (((w11.setCell ⟨gb315, 0, none⟩ (.int .i64 ((rd_T79 l0_0 x3_1).f0))).setCell ⟨gb315, 1, none⟩ (.int .i64 ((rd_T79 l0_0 x3_1).f1))).setCell ⟨gb315, 2, none⟩ (.slice A314_2 ((rd_T79 l0_0 x3_1).f2).length c314_2)) = w35
    have n0_ : Aside0 (w35.heap[gb313]? = some (.cells #[.slice (some ad314) l0_0.length c0_0] 26 (0, 0))) := ⟨by rw [← hq_]; exact qz32⟩
    have n1_ : Aside0 (w35.heap[gb315]? = some (.cells #[.int .i64 ((rd_T79 l0_0 x3_1).f0), .int .i64 ((rd_T79 l0_0 x3_1).f1), .slice A314_2 ((rd_T79 l0_0 x3_1).f2).length c314_2] 79 (0, 0))) := ⟨by rw [← hq_]; exact (by (with_reducible repeat (first | refine blk_drewN ?_ _ | refine blk_drew ?_ | refine blk_alloc ?_ _)); refine blk_put (cs := #[.int .i64 ((rd_T79 l0_0 x3_1).f0), .int .i64 ((rd_T79 l0_0 x3_1).f1), .slice none 0 0]) ?_ 2 _ rfl; (with_reducible repeat (first | refine blk_drewN ?_ _ | refine blk_drew ?_ | refine blk_alloc ?_ _)); refine blk_put (cs := #[.int .i64 ((rd_T79 l0_0 x3_1).f0), .int .i64 0, .slice none 0 0]) ?_ 1 _ rfl; (with_reducible repeat (first | refine blk_drewN ?_ _ | refine blk_drew ?_ | refine blk_alloc ?_ _)); refine blk_put (cs := #[.int .i64 0, .int .i64 0, .slice none 0 0]) ?_ 0 _ rfl; exact bk_ BK315.out)⟩
    have n2_ : Aside0 (Below w.heap.size w w35) := ⟨by rw [← hq_]; exact qz26⟩
    (try clear BK313)
    (try clear BK315)
    (try clear HB)
    clear hq_
    have BK313 := n0_
    have BK315 := n1_
    have HB := n2_
    clear n0_ n1_ n2_
    have n0_ := aM (blk_drew BK313.out)
    have n1_ := aM (blk_drew BK315.out)
    have n2_ := aM (below_drew1 HB.out)
    clear BK313
    clear BK315
    clear HB
    have BK313 := n0_
    have BK315 := n1_
    have HB := n2_
    clear n0_ n1_ n2_
    refine start_ (n := 32) (S := fun w' => w'.cell? ⟨gb315, 0, none⟩ = some (.int .i64 ((rd_T79 l0_0 x3_1).f0)) ∧ w'.cell? ⟨gb315, 1, none⟩ = some (.int .i64 ((rd_T79 l0_0 x3_1).f1)) ∧ w'.cell? ⟨gb315, 2, none⟩ = some (.slice A314_2 ((rd_T79 l0_0 x3_1).f2).length c314_2)) (ds := []) #[false, false, false, false, false, false, false, false, false, false, false, false, false, false, false, false, false, false, false, false, false, false, false, false, false, false, false, false, false, false, false, false] (by kernel_rfl) rfl rfl ⟨(blk_cell BK315.out 0).trans rfl, (blk_cell BK315.out 1).trans rfl, (blk_cell BK315.out 2).trans rfl⟩ (fun hHeld => ?_); refine with_tabW spec_StockOk.tab7 spec_StockOk.bits7 (fun HT_ HW_ => ?_)
    generalize w35.drew = w36 at BK313 BK315 HB hHeld ⊢
    refine pI_ 0 22 (bqz 32 1) ?_
    refine tI3_ 1 23 (bqz 32 3) ?_
    refine one_ (i := 2) (N := some 24) (bqz 32 7) rfl rfl qzc (by decide) (fun K hK => ?_)
    refine goes_ Try.func81 (by kernel_rfl) rfl #[.int .i64 ((rd_T79 l0_0 x3_1).f0), .int .i64 1, .int .i64 999] (by rfl) rfl rfl qz1 ?_
    with_reducible refine (spec_l1In.calls ((rd_T79 l0_0 x3_1).f0) 1 999 false _ A14.out).mono ?_
    rintro e w' ⟨rfl, ⟨nd, rfl⟩⟩
    refine ⟨_, rfl, ?_⟩
    refine hK.out _ _ ⟨(blk_cell BK315.out 0).trans rfl, (blk_cell BK315.out 1).trans rfl, (blk_cell BK315.out 2).trans rfl⟩ (fun hHeld => ?_)
    clear hK K
    refine norm_ (a' := ?_) ?_ ?_
    rotate_left
    {
    show Act.put _ (some 24) _ = _
    simp only [qzs]
    rfl
    }
    refine pI_ 3 25 (bqz 32 15) ?_
    refine pI_ 4 26 (bqz 32 31) ?_
    refine pU_ 5 27 (bqz 32 63) ?_
    refine pU_ 6 28 (bqz 32 127) ?_
    refine pU_ 7 29 (bqz 32 255) ?_
    refine pU_ 8 30 (bqz 32 511) ?_
    refine pI_ 9 31 (bqz 32 1023) ?_
    refine pI_ 10 32 (bqz 32 2047) ?_
    refine pU_ 11 33 (bqz 32 4095) ?_
    refine pU_ 12 34 (bqz 32 8191) ?_
    refine pU_ 13 35 (bqz 32 16383) ?_
    refine pU_ 14 36 (bqz 32 32767) ?_
    refine pI_ 15 37 (bqz 32 65535) ?_
    refine pI_ 16 38 (bqz 32 131071) ?_
    refine pU_ 17 39 (bqz 32 262143) ?_
    refine pU_ 18 40 (bqz 32 524287) ?_
    refine pU_ 19 41 (bqz 32 1048575) ?_
    refine pU_ 20 42 (bqz 32 2097151) ?_
    refine pU_ 21 43 (bqz 32 4194303) ?_
    refine pU_ 22 44 (bqz 32 8388607) ?_
    refine pU_ 23 45 (bqz 32 16777215) ?_
    refine pU_ 24 46 (bqz 32 33554431) ?_
    refine pU_ 25 47 (bqz 32 67108863) ?_
    refine pU_ 26 48 (bqz 32 134217727) ?_
    refine pU_ 27 49 (bqz 32 268435455) ?_
    refine pU_ 28 50 (bqz 32 536870911) ?_
    refine pU_ 29 51 (bqz 32 1073741823) ?_
    refine pU_ 30 52 (bqz 32 2147483647) ?_
    refine pI_ 31 53 (bqz 32 4294967295) ?_
    refine done_ (done_of HT_.out (by kernel_rfl)) ?_
    try go_wp2
    go_meet
    case rel => exact ⟨_, (true), qz13, H', ⟨by have := HK1.out; first | omega | exact Nat.le_refl _⟩, ⟨bk_ BK313.out⟩, ⟨bk_ BK315.out⟩, ⟨by repeat (first | (with_reducible first | exact HB.out | apply below_alloc | apply pw_below_drewN | apply below_drew1 | refine below_set ?_ GE313.out | refine below_set ?_ GE315.out) | exact HB.out)⟩⟩
    }
   case rest =>
    clear HC9
    try clear c1
    try clear p2
    try clear c3
    try clear c8
    try clear c15
    try clear c17
    try clear c31
    obtain ⟨kq, x53_8, rfl, HA, HJ8, BK313, BK315, HB⟩ := hcut
    cases kq with
    | zero => exact absurd HA.out (by simp [spec_StockOk.j1])
    | succ kj8 =>
     have H := HA.out
     clear HA
     simp only [spec_StockOk.j1] at H
     by_cases c37 : x53_8 = true
     {
     subst c37
     rw [if_pos rfl] at H
     obtain rfl := Option.some.inj H
     simp only [Option.some.injEq, Prod.mk.injEq] at H
     obtain ⟨rfl⟩ := H
     go_wp2
     go_ret
     exact ⟨by first | rfl | (simp [errW_none, errW_some] <;> rfl) | (simp [*, errW_none, errW_some] <;> rfl), by repeat (first | (with_reducible first | exact HB.out | apply below_alloc | apply pw_below_drewN | apply below_drew1 | refine below_set ?_ GE313.out | refine below_set ?_ GE315.out) | exact HB.out)⟩
     }
     {
     replace c37 := Bool.eq_false_iff.mpr c37
     subst c37
     rw [if_neg (show ¬ (false = true) by decide)] at H
     have H' := aM H
     clear H
     go_wp2
     go_loopg [5] kj8 (fun kq v5 w' => ∃ (x5_3 : Int), v5 = .int .i64 x5_3 ∧ Aside0 (spec_StockOk.l1 kq x3_1 x5_3 l0_0 ((rd_T79 l0_0 x3_1).f0) ((rd_T79 l0_0 x3_1).f1) ((rd_T79 l0_0 x3_1).f2) = some r) ∧ Aside0 (kq ≤ kj8) ∧ Aside0 (w'.heap[gb313]? = some (.cells #[(.slice (some ad314) l0_0.length c0_0)] 26 (0, 0))) ∧ Aside0 (w'.heap[gb315]? = some (.cells #[.int .i64 ((rd_T79 l0_0 x3_1).f0), .int .i64 ((rd_T79 l0_0 x3_1).f1), (.slice A314_2 ((rd_T79 l0_0 x3_1).f2).length c314_2)] 79 (0, 0))) ∧ Aside0 (Below w.heap.size w w'))
     case atStart => exact ⟨(0), qz13, H', ⟨Nat.le_refl _⟩, ⟨bk_ BK313.out⟩, ⟨bk_ BK315.out⟩, ⟨by repeat (first | (with_reducible first | exact HB.out | apply below_alloc | apply pw_below_drewN | apply below_drew1 | refine below_set ?_ GE313.out | refine below_set ?_ GE315.out) | exact HB.out)⟩⟩
     case round =>
      clear H'
      try clear c1
      try clear p2
      try clear c3
      try clear c8
      try clear c15
      try clear c17
      try clear c31
      try clear c37
      try clear p2
      obtain ⟨x5_3, rfl, HA, HK3, BK313, BK315, HB⟩ := hrel
      cases gk with
      | zero => exact absurd HA.out (by simp [spec_StockOk.l1])
      | succ k3 =>
       have H := HA.out
       clear HA
       simp only [spec_StockOk.l1] at H
       by_cases c38 : x5_3 < x3_1
       {
       rw [if_pos c38] at H
       have c38b0 := decide_eq_true c38
       clear c38
       by_cases c39 : 0 ≤ x5_3
       {
       rw [if_pos c39] at H
       have c39b0 := decide_eq_true c39
       clear c39
       by_cases c40 : x5_3 < (l0_0.length : Int)
       {
       rw [if_pos c40] at H
       have c40b0 := decide_eq_true c40
       clear c40
       by_cases c41 : ((rd_T79 l0_0 x5_3).f1) = ((rd_T79 l0_0 x3_1).f1)
       {
       rw [if_pos c41] at H
       have c41b0 := beq_iff_eq.mpr c41
       have c41b1 := bne_eq_false_iff_eq.mpr c41
       clear c41
       obtain rfl := Option.some.inj H
       simp only [Option.some.injEq, Prod.mk.injEq] at H
       obtain ⟨rfl⟩ := H
       try go_wp2
       have n0_ := aM (blk_drew BK313.out)
       have n1_ := aM (blk_drew BK315.out)
       have n2_ := aM (below_drew1 HB.out)
       clear BK313
       clear BK315
       clear HB
       have BK313 := n0_
       have BK315 := n1_
       have HB := n2_
       clear n0_ n1_ n2_
       have p320 : 0 ≤ (x5_3 : Int) := of_decide_eq_true qz4
       have q320 : x5_3 < (l0_0.length : Int) := of_decide_eq_true qz4
       obtain ⟨ad320, A320_2, c320_2, e320, hx320_0, hx320_1, hx320_2, hl320_2, hi320_2⟩ := at_T79 HR0_0.out x5_3 p320 q320
       have hw320_2 := hx320_2
       have hw320_1 := hx320_1
       have hw320_0 := hx320_0
       obtain rfl : ad314 = ad320 := (by injection e320)
       replace hx320_0 := pw_cell_below HB.out hx320_0
       replace hx320_1 := pw_cell_below HB.out hx320_1
       replace hx320_2 := pw_cell_below HB.out hx320_2
       have HR320_2 := aM hi320_2
       have HC320_2 := aM hl320_2
       clear hi320_2 hl320_2
       replace p320 := eq_true p320
       replace q320 := eq_true q320
       refine start_ (n := 9) (S := fun w' => w'.cell? ⟨gb313, 0, none⟩ = some (.slice (some ad314) l0_0.length c0_0) ∧ w'.cell? ⟨gb315, 0, none⟩ = some (.int .i64 ((rd_T79 l0_0 x3_1).f0)) ∧ w'.cell? ⟨gb315, 1, none⟩ = some (.int .i64 ((rd_T79 l0_0 x3_1).f1)) ∧ w'.cell? ⟨gb315, 2, none⟩ = some (.slice A314_2 ((rd_T79 l0_0 x3_1).f2).length c314_2) ∧ w'.cell? (ad314.add ((x5_3).toNat * 3)) = some (.int .i64 ((rd_T79 l0_0 x5_3).f0)) ∧ w'.cell? ⟨(ad314.add ((x5_3).toNat * 3)).block, (ad314.add ((x5_3).toNat * 3)).off + 1, none⟩ = some (.int .i64 ((rd_T79 l0_0 x5_3).f1)) ∧ w'.cell? ⟨(ad314.add ((x5_3).toNat * 3)).block, (ad314.add ((x5_3).toNat * 3)).off + 2, none⟩ = some (.slice A320_2 ((rd_T79 l0_0 x5_3).f2).length c320_2)) (ds := []) #[false, false, false, false, false, false, false, false, false] (by kernel_rfl) rfl rfl ⟨(blk_cell BK313.out 0).trans rfl, (blk_cell BK315.out 0).trans rfl, (blk_cell BK315.out 1).trans rfl, (blk_cell BK315.out 2).trans rfl, (pw_cell_below HB.out hw320_0), (pw_cell_below HB.out hw320_1), (pw_cell_below HB.out hw320_2)⟩ (fun hHeld => ?_); refine with_tabW spec_StockOk.tab12 spec_StockOk.bits12 (fun HT_ HW_ => ?_)
       generalize wr.drew = w42 at BK313 BK315 HB HR320_2 hx320_0 hx320_1 hx320_2 hHeld ⊢
       refine pI_ 0 59 (bqz 9 1) ?_
       refine pI_ 2 61 (bqz 9 5) ?_
       refine pI_ 6 65 (bqz 9 69) ?_
       refine tI7_ 1 60 (bqz 9 71) ?_
       refine pI_ 3 62 (bqz 9 79) ?_
       refine pI_ 4 63 (bqz 9 95) ?_
       refine tI7_ 5 64 (bqz 9 127) ?_
       refine tI7_ 7 66 (bqz 9 255) ?_
       refine pI_ 8 67 (bqz 9 511) ?_
       refine done_ (done_of HT_.out (by kernel_rfl)) ?_
       try go_wp2
       go_ret
       exact ⟨by first | rfl | (simp [errW_none, errW_some] <;> rfl) | (simp [*, errW_none, errW_some] <;> rfl), by repeat (first | (with_reducible first | exact HB.out | apply below_alloc | apply pw_below_drewN | apply below_drew1 | refine below_set ?_ GE313.out | refine below_set ?_ GE315.out) | exact HB.out)⟩
       }
       {
       rw [if_neg c41] at H
       have c41b0 := beq_eq_false_iff_ne.mpr c41
       have c41b1 := bne_iff_ne.mpr c41
       have H' := aM H
       clear H
       try go_wp2
       have n0_ := aM (blk_drew BK313.out)
       have n1_ := aM (blk_drew BK315.out)
       have n2_ := aM (below_drew1 HB.out)
       clear BK313
       clear BK315
       clear HB
       have BK313 := n0_
       have BK315 := n1_
       have HB := n2_
       clear n0_ n1_ n2_
       have p320 : 0 ≤ (x5_3 : Int) := of_decide_eq_true qz4
       have q320 : x5_3 < (l0_0.length : Int) := of_decide_eq_true qz4
       obtain ⟨ad320, A320_2, c320_2, e320, hx320_0, hx320_1, hx320_2, hl320_2, hi320_2⟩ := at_T79 HR0_0.out x5_3 p320 q320
       have hw320_2 := hx320_2
       have hw320_1 := hx320_1
       have hw320_0 := hx320_0
       obtain rfl : ad314 = ad320 := (by injection e320)
       replace hx320_0 := pw_cell_below HB.out hx320_0
       replace hx320_1 := pw_cell_below HB.out hx320_1
       replace hx320_2 := pw_cell_below HB.out hx320_2
       have HR320_2 := aM hi320_2
       have HC320_2 := aM hl320_2
       clear hi320_2 hl320_2
       replace p320 := eq_true p320
       replace q320 := eq_true q320
       refine start_ (n := 9) (S := fun w' => w'.cell? ⟨gb313, 0, none⟩ = some (.slice (some ad314) l0_0.length c0_0) ∧ w'.cell? ⟨gb315, 0, none⟩ = some (.int .i64 ((rd_T79 l0_0 x3_1).f0)) ∧ w'.cell? ⟨gb315, 1, none⟩ = some (.int .i64 ((rd_T79 l0_0 x3_1).f1)) ∧ w'.cell? ⟨gb315, 2, none⟩ = some (.slice A314_2 ((rd_T79 l0_0 x3_1).f2).length c314_2) ∧ w'.cell? (ad314.add ((x5_3).toNat * 3)) = some (.int .i64 ((rd_T79 l0_0 x5_3).f0)) ∧ w'.cell? ⟨(ad314.add ((x5_3).toNat * 3)).block, (ad314.add ((x5_3).toNat * 3)).off + 1, none⟩ = some (.int .i64 ((rd_T79 l0_0 x5_3).f1)) ∧ w'.cell? ⟨(ad314.add ((x5_3).toNat * 3)).block, (ad314.add ((x5_3).toNat * 3)).off + 2, none⟩ = some (.slice A320_2 ((rd_T79 l0_0 x5_3).f2).length c320_2)) (ds := []) #[false, false, false, false, false, false, false, false, false] (by kernel_rfl) rfl rfl ⟨(blk_cell BK313.out 0).trans rfl, (blk_cell BK315.out 0).trans rfl, (blk_cell BK315.out 1).trans rfl, (blk_cell BK315.out 2).trans rfl, (pw_cell_below HB.out hw320_0), (pw_cell_below HB.out hw320_1), (pw_cell_below HB.out hw320_2)⟩ (fun hHeld => ?_); refine with_tabW spec_StockOk.tab12 spec_StockOk.bits12 (fun HT_ HW_ => ?_)
       generalize wr.drew = w43 at BK313 BK315 HB HR320_2 hx320_0 hx320_1 hx320_2 hHeld ⊢
       refine pI_ 0 59 (bqz 9 1) ?_
       refine pI_ 2 61 (bqz 9 5) ?_
       refine pI_ 6 65 (bqz 9 69) ?_
       refine tI7_ 1 60 (bqz 9 71) ?_
       refine pI_ 3 62 (bqz 9 79) ?_
       refine pI_ 4 63 (bqz 9 95) ?_
       refine tI7_ 5 64 (bqz 9 127) ?_
       refine tI7_ 7 66 (bqz 9 255) ?_
       refine pI_ 8 67 (bqz 9 511) ?_
       refine done_ (done_of HT_.out (by kernel_rfl)) ?_
       try go_wp2
       go_roundg k3
       case measure => have := HK1.out; have := HJ8.out; have := HK3.out; omega
       case rel => exact ⟨(wrap64 (x5_3 + 1)), qz13, H', ⟨by have := HK1.out; have := HJ8.out; have := HK3.out; omega⟩, ⟨bk_ BK313.out⟩, ⟨bk_ BK315.out⟩, ⟨by repeat (first | (with_reducible first | exact HB.out | apply below_alloc | apply pw_below_drewN | apply below_drew1 | refine below_set ?_ GE313.out | refine below_set ?_ GE315.out) | exact HB.out)⟩⟩
       }
       }
       {
       rw [if_neg c40] at H
       exact absurd H (by simp)
       }
       }
       {
       rw [if_neg c39] at H
       exact absurd H (by simp)
       }
       }
       {
       rw [if_neg c38] at H
       have c38b0 := decide_eq_false c38
       clear c38
       have H' := aM H
       clear H
       go_wp2
       go_roundg k3
       case measure => have := HK1.out; have := HJ8.out; have := HK3.out; omega
       case rel => exact ⟨(wrap64 (x3_1 + 1)), qz13, H', ⟨by have := HK1.out; have := HJ8.out; have := HK3.out; omega⟩, ⟨bk_ BK313.out⟩, ⟨by repeat (first | (with_reducible first | exact HB.out | apply below_alloc | apply pw_below_drewN | apply below_drew1 | refine below_set ?_ GE313.out | refine below_set ?_ GE315.out) | exact HB.out)⟩⟩
       }
     }
   }
   {
   rw [if_neg c8] at H
   exact absurd H (by simp)
   }
   }
   {
   rw [if_neg c7] at H
   have c7b0 := decide_eq_false c7
   clear c7
   obtain rfl := Option.some.inj H
   simp only [Option.some.injEq, Prod.mk.injEq] at H
   obtain ⟨rfl⟩ := H
   have hcz44_0 := bc0_ BK313.out
   have hfz44_0 := blk_frozen BK313.out 0
   go_wp2
   go_ret
   exact ⟨by first | rfl | (simp [errW_none, errW_some] <;> rfl) | (simp [*, errW_none, errW_some] <;> rfl), by repeat (first | (with_reducible first | exact HB.out | apply below_alloc | apply pw_below_drewN | apply below_drew1 | refine below_set ?_ GE313.out) | exact HB.out)⟩

   }
 }
end Go.Proofs.Yteajnkondkfmgaa.PFnHeld
