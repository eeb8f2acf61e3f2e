-- Made by a program of this session out of the translation. Lean checks it.
import Derived.Test.YteajnkondkfmgaaPFnHeldx0
import Derived.Test.YteajnkondkfmgaaPFnHeldx1
import Derived.Test.YteajnkondkfmgaaPFnHeldx6
import Derived.Test.YteajnkondkfmgaaPFnHeldx10
namespace Go.Proofs.Yteajnkondkfmgaa.PFnHeld
open Go.RowKit Go.Proofs.YteajnkondkfmgaaW.PrintWords Go.Proofs.YteajnkondkfmgaaW.PrintLast Go.Proofs.YteajnkondkfmgaaW.PrintMore
attribute [local go_sem] max2_int min2_int max_two min_two max_three min_three max_four min_four   -- for this text's walks alone
set_option linter.unusedVariables false
set_option linter.unusedSimpArgs false

attribute [local go_sem high] eqA72
/-! ### laws_sameStock: function 19 -/
mutual
def laws_sameStock.l0 : Nat → Int → List (S79) → List (S79) → Option (Bool)
 | 0, _, _, _ => none
 | k + 1, x5, x359000, x360000 => if x5 < (x359000.length : Int) then (if 0 ≤ x5 then (if x5 < (x360000.length : Int) then (if ((rd_T79 x359000 x5).f0) = ((rd_T79 x360000 x5).f0) then (if ((rd_T79 x359000 x5).f1) = ((rd_T79 x360000 x5).f1) then (laws_sameStock.j1 k x5 ((((rd_T79 x359000 x5).f2).length : Int) != (((rd_T79 x360000 x5).f2).length : Int)) x359000 x360000 ((rd_T79 x359000 x5).f0) ((rd_T79 x359000 x5).f1) ((rd_T79 x359000 x5).f2) ((rd_T79 x360000 x5).f0) ((rd_T79 x360000 x5).f1) ((rd_T79 x360000 x5).f2)) else (laws_sameStock.j1 k x5 true x359000 x360000 ((rd_T79 x359000 x5).f0) ((rd_T79 x359000 x5).f1) ((rd_T79 x359000 x5).f2) ((rd_T79 x360000 x5).f0) ((rd_T79 x360000 x5).f1) ((rd_T79 x360000 x5).f2))) else (laws_sameStock.j1 k x5 true x359000 x360000 ((rd_T79 x359000 x5).f0) ((rd_T79 x359000 x5).f1) ((rd_T79 x359000 x5).f2) ((rd_T79 x360000 x5).f0) ((rd_T79 x360000 x5).f1) ((rd_T79 x360000 x5).f2))) else (none)) else (none)) else (some true)
def laws_sameStock.j1 : Nat → Int → Bool → List (S79) → List (S79) → Int → Int → List (S72) → Int → Int → List (S72) → Option (Bool)
 | 0, _, _, _, _, _, _, _, _, _, _ => none
 | k + 1, x5, x53, x359000, x360000, x362000, x362001, x362002, x364000, x364001, x364002 => if x53 = true then (some false) else (laws_sameStock.l1 k x5 0 x359000 x360000 x362000 x362001 x362002 x364000 x364001 x364002)
def laws_sameStock.l1 : Nat → Int → Int → List (S79) → List (S79) → Int → Int → List (S72) → Int → Int → List (S72) → Option (Bool)
 | 0, _, _, _, _, _, _, _, _, _, _ => none
 | k + 1, x5, x8, x359000, x360000, x362000, x362001, x362002, x364000, x364001, x364002 => if x8 < (x362002.length : Int) then (if 0 ≤ x8 then (if x8 < (x364002.length : Int) then (if (!(((rd_T72 x362002 x8).f0) == ((rd_T72 x364002 x8).f0)) || (!(((rd_T72 x362002 x8).f1) == ((rd_T72 x364002 x8).f1)) || (!(((rd_T72 x362002 x8).f2) == ((rd_T72 x364002 x8).f2))))) = true then (some false) else (laws_sameStock.l1 k x5 (wrap64 (x8 + 1)) x359000 x360000 x362000 x362001 x362002 x364000 x364001 x364002)) else (none)) else (none)) else (laws_sameStock.l0 k (wrap64 (x5 + 1)) x359000 x360000)
end
def laws_sameStock.f (k : Nat) (l0_0 : List (S79)) (l1_0 : List (S79)) : Option (Bool) := if (l0_0.length : Int) = (l1_0.length : Int) then (laws_sameStock.l0 k 0 l0_0 l1_0) else (some false)
theorem laws_sameStock.mono_l : ∀ k, (∀ y0 y1 y2, LeO (laws_sameStock.l0 k y0 y1 y2) (laws_sameStock.l0 (k + 1) y0 y1 y2)) ∧ (∀ y0 y1 y2 y3 y4 y5 y6 y7 y8 y9, LeO (laws_sameStock.j1 k y0 y1 y2 y3 y4 y5 y6 y7 y8 y9) (laws_sameStock.j1 (k + 1) y0 y1 y2 y3 y4 y5 y6 y7 y8 y9)) ∧ (∀ y0 y1 y2 y3 y4 y5 y6 y7 y8 y9, LeO (laws_sameStock.l1 k y0 y1 y2 y3 y4 y5 y6 y7 y8 y9) (laws_sameStock.l1 (k + 1) y0 y1 y2 y3 y4 y5 y6 y7 y8 y9))
 | 0 => ⟨fun _ _ _ r h => by simp [laws_sameStock.l0] at h, fun _ _ _ _ _ _ _ _ _ _ r h => by simp [laws_sameStock.j1] at h, fun _ _ _ _ _ _ _ _ _ _ r h => by simp [laws_sameStock.l1] at h⟩
 | k + 1 => by
  obtain ⟨ih0, ih1, ih2⟩ := laws_sameStock.mono_l k
  refine ⟨?_, ?_, ?_⟩
  {
  intro y0 y1 y2
  unfold laws_sameStock.l0
  repeat' first
  | (with_reducible first | exact ih0 _ _ _ | exact ih1 _ _ _ _ _ _ _ _ _ _ | exact ih2 _ _ _ _ _ _ _ _ _ _ | exact LeO.refl _ | exact LeO.none _ | refine LeO.ite ?_ ?_ | refine LeO.bind ?_ (fun _ => ?_))
  | exact ih0 _ _ _
  | exact ih1 _ _ _ _ _ _ _ _ _ _
  | exact ih2 _ _ _ _ _ _ _ _ _ _
  | exact LeO.none _
  | refine LeO.ite ?_ ?_
  | refine LeO.bind ?_ (fun _ => ?_)
  }
  {
  intro y0 y1 y2 y3 y4 y5 y6 y7 y8 y9
  unfold laws_sameStock.j1
  repeat' first
  | (with_reducible first | exact ih0 _ _ _ | exact ih1 _ _ _ _ _ _ _ _ _ _ | exact ih2 _ _ _ _ _ _ _ _ _ _ | exact LeO.refl _ | exact LeO.none _ | refine LeO.ite ?_ ?_ | refine LeO.bind ?_ (fun _ => ?_))
  | exact ih0 _ _ _
  | exact ih1 _ _ _ _ _ _ _ _ _ _
  | exact ih2 _ _ _ _ _ _ _ _ _ _
  | exact LeO.none _
  | refine LeO.ite ?_ ?_
  | refine LeO.bind ?_ (fun _ => ?_)
  }
  {
  intro y0 y1 y2 y3 y4 y5 y6 y7 y8 y9
  unfold laws_sameStock.l1
  repeat' first
  | (with_reducible first | exact ih0 _ _ _ | exact ih1 _ _ _ _ _ _ _ _ _ _ | exact ih2 _ _ _ _ _ _ _ _ _ _ | exact LeO.refl _ | exact LeO.none _ | refine LeO.ite ?_ ?_ | refine LeO.bind ?_ (fun _ => ?_))
  | exact ih0 _ _ _
  | exact ih1 _ _ _ _ _ _ _ _ _ _
  | exact ih2 _ _ _ _ _ _ _ _ _ _
  | exact LeO.none _
  | refine LeO.ite ?_ ?_
  | refine LeO.bind ?_ (fun _ => ?_)
  }
theorem laws_sameStock.mono : ∀ a0 a1 k, LeO (laws_sameStock.f k a0 a1) (laws_sameStock.f (k + 1) a0 a1) := by
 intro a0 a1 k
 obtain ⟨ih0, ih1, ih2⟩ := laws_sameStock.mono_l k
 unfold laws_sameStock.f
 repeat' first
  | (with_reducible first | exact ih0 _ _ _ | exact ih1 _ _ _ _ _ _ _ _ _ _ | exact ih2 _ _ _ _ _ _ _ _ _ _ | exact LeO.refl _ | exact LeO.none _ | refine LeO.ite ?_ ?_ | refine LeO.bind ?_ (fun _ => ?_))
  | exact ih0 _ _ _
  | exact ih1 _ _ _ _ _ _ _ _ _ _
  | exact ih2 _ _ _ _ _ _ _ _ _ _
  | exact LeO.none _
  | refine LeO.ite ?_ ?_
  | refine LeO.bind ?_ (fun _ => ?_)
set_option maxHeartbeats 8000000 in
set_option maxRecDepth 100000 in
theorem laws_sameStock.calls (k : Nat) (A0_0 : Option Addr) (c0_0 : Nat) (l0_0 : List (S79)) (A1_0 : Option Addr) (c1_0 : Nat) (l1_0 : List (S79)) (r : Bool) (w : World) (hr0_0 : Kd.C k79 w A0_0 l0_0.length l0_0) (hc0_0 : l0_0.length ≤ c0_0) (hr1_0 : Kd.C k79 w A1_0 l1_0.length l1_0) (hc1_0 : l1_0.length ≤ c1_0) (h : laws_sameStock.f k l0_0 l1_0 = some r) :
  Calls Try.prog 19 #[.agg #[.slice A0_0 l0_0.length c0_0], .agg #[.slice A1_0 l1_0.length c1_0]] w fun e w' => e = .returned (.bool r) ∧ Below w.heap.size w w' := by
 have hu26 := Try.underlying26
 have hu79 := Try.underlying79
 have hu72 := Try.underlying72
 have HR0_0 := aM hr0_0
 have HC0_0 := aM hc0_0
 clear hr0_0 hc0_0
 have HR1_0 := aM hr1_0
 have HC1_0 := aM hc1_0
 clear hr1_0 hc1_0
 have HB := aM (Below.refl w.heap.size w)
 have H : (if (l0_0.length : Int) = (l1_0.length : Int) then (laws_sameStock.l0 k 0 l0_0 l1_0) else (some false)) = some r := h
 clear h
 by_cases c3 : (l0_0.length : Int) = (l1_0.length : Int)
 {
 rw [if_pos c3] at H
 have c3b0 := beq_iff_eq.mpr c3
 have c3b1 := bne_eq_false_iff_eq.mpr c3
 have c3b2 : (l0_0.length == l1_0.length) = true := by first | simpa using c3 | (simp at c3 ⊢; omega)
 clear c3
 have H' := aM H
 clear H
 go_enter Try.func19, Try.ntmps19
 go_wp2_with (first | ((with_reducible refine gate_dst (N := 2) rfl ?_); (try (refine gate_guard (by rfl) ?_; dsimp only)); refine bx_ 2 #[.slice A0_0 l0_0.length c0_0] 26 ?_; intro gb358 hg w4 hbox hb; have n0_ := aM (below_step qz2 hb); have n1_ := aM (hbox); have n2_ := aM ((by rw [hg]; exact (below_size qz2) : w.heap.size ≤ gb358)); have n3_ := aM ((by rw [hg]; exact (below_size qz2) : w.heap.size ≤ gb358)); clear HB; have HB := n0_; have BK358 := n1_; have GW358 := n2_; have GE358 := n3_; clear n0_ n1_ n2_ n3_; clear hb hbox hg) | ((with_reducible refine gate_dst (N := 3) rfl ?_); (try (refine gate_guard (by rfl) ?_; dsimp only)); refine bx_ 3 #[.slice A1_0 l1_0.length c1_0] 26 ?_; intro gb359 hg w5 hbox hb; have n0_ := aM (blk_below (bk_ BK358.out) hb); have n1_ := aM (below_step qz20 hb); have n2_ := aM (hbox); have n3_ := aM ((by rw [hg]; exact (below_size qz20) : w.heap.size ≤ gb359)); have n4_ := aM ((by rw [hg]; exact (below_size qz20) : w.heap.size ≤ gb359)); have n5_ := aM ((by rw [hg]; exact Nat.ne_of_lt (blk_lt (bk_ BK358.out)) : gb358 ≠ gb359)); have n6_ := aM ((by rw [hg]; exact Nat.ne_of_gt (blk_lt (bk_ BK358.out)) : gb359 ≠ gb358)); clear BK358 HB; have BK358 := n0_; have HB := n1_; have BK359 := n2_; have GW359 := n3_; have GE359 := n4_; have NB358_359 := n5_; have NB359_358 := n6_; clear n0_ n1_ n2_ n3_ n4_ n5_ n6_; clear hb hbox hg; have hnb6 := NB358_359.out; have hnc6 := NB359_358.out; have hcz7_0 := bc0_ BK358.out; have hfz7_0 := blk_frozen BK358.out 0; have hcz8_0 := bc0_ BK359.out; have hfz8_0 := blk_frozen BK359.out 0))
 repeat (go_quiet (first | ((with_reducible refine gate_dst (N := 2) rfl ?_); (try (refine gate_guard (by rfl) ?_; dsimp only)); refine bx_ 2 #[.slice A0_0 l0_0.length c0_0] 26 ?_; intro gb358 hg w4 hbox hb; have n0_ := aM (below_step qz2 hb); have n1_ := aM (hbox); have n2_ := aM ((by rw [hg]; exact (below_size qz2) : w.heap.size ≤ gb358)); have n3_ := aM ((by rw [hg]; exact (below_size qz2) : w.heap.size ≤ gb358)); clear HB; have HB := n0_; have BK358 := n1_; have GW358 := n2_; have GE358 := n3_; clear n0_ n1_ n2_ n3_; clear hb hbox hg) | ((with_reducible refine gate_dst (N := 3) rfl ?_); (try (refine gate_guard (by rfl) ?_; dsimp only)); refine bx_ 3 #[.slice A1_0 l1_0.length c1_0] 26 ?_; intro gb359 hg w5 hbox hb; have n0_ := aM (blk_below (bk_ BK358.out) hb); have n1_ := aM (below_step qz20 hb); have n2_ := aM (hbox); have n3_ := aM ((by rw [hg]; exact (below_size qz20) : w.heap.size ≤ gb359)); have n4_ := aM ((by rw [hg]; exact (below_size qz20) : w.heap.size ≤ gb359)); have n5_ := aM ((by rw [hg]; exact Nat.ne_of_lt (blk_lt (bk_ BK358.out)) : gb358 ≠ gb359)); have n6_ := aM ((by rw [hg]; exact Nat.ne_of_gt (blk_lt (bk_ BK358.out)) : gb359 ≠ gb358)); clear BK358 HB; have BK358 := n0_; have HB := n1_; have BK359 := n2_; have GW359 := n3_; have GE359 := n4_; have NB358_359 := n5_; have NB359_358 := n6_; clear n0_ n1_ n2_ n3_ n4_ n5_ n6_; clear hb hbox hg; have hnb6 := NB358_359.out; have hnc6 := NB359_358.out; have hcz7_0 := bc0_ BK358.out; have hfz7_0 := blk_frozen BK358.out 0; have hcz8_0 := bc0_ BK359.out; have hfz8_0 := blk_frozen BK359.out 0)); try go_wp2_with (first | ((with_reducible refine gate_dst (N := 2) rfl ?_); (try (refine gate_guard (by rfl) ?_; dsimp only)); refine bx_ 2 #[.slice A0_0 l0_0.length c0_0] 26 ?_; intro gb358 hg w4 hbox hb; have n0_ := aM (below_step qz2 hb); have n1_ := aM (hbox); have n2_ := aM ((by rw [hg]; exact (below_size qz2) : w.heap.size ≤ gb358)); have n3_ := aM ((by rw [hg]; exact (below_size qz2) : w.heap.size ≤ gb358)); clear HB; have HB := n0_; have BK358 := n1_; have GW358 := n2_; have GE358 := n3_; clear n0_ n1_ n2_ n3_; clear hb hbox hg) | ((with_reducible refine gate_dst (N := 3) rfl ?_); (try (refine gate_guard (by rfl) ?_; dsimp only)); refine bx_ 3 #[.slice A1_0 l1_0.length c1_0] 26 ?_; intro gb359 hg w5 hbox hb; have n0_ := aM (blk_below (bk_ BK358.out) hb); have n1_ := aM (below_step qz20 hb); have n2_ := aM (hbox); have n3_ := aM ((by rw [hg]; exact (below_size qz20) : w.heap.size ≤ gb359)); have n4_ := aM ((by rw [hg]; exact (below_size qz20) : w.heap.size ≤ gb359)); have n5_ := aM ((by rw [hg]; exact Nat.ne_of_lt (blk_lt (bk_ BK358.out)) : gb358 ≠ gb359)); have n6_ := aM ((by rw [hg]; exact Nat.ne_of_gt (blk_lt (bk_ BK358.out)) : gb359 ≠ gb358)); clear BK358 HB; have BK358 := n0_; have HB := n1_; have BK359 := n2_; have GW359 := n3_; have GE359 := n4_; have NB358_359 := n5_; have NB359_358 := n6_; clear n0_ n1_ n2_ n3_ n4_ n5_ n6_; clear hb hbox hg; have hnb6 := NB358_359.out; have hnc6 := NB359_358.out; have hcz7_0 := bc0_ BK358.out; have hfz7_0 := blk_frozen BK358.out 0; have hcz8_0 := bc0_ BK359.out; have hfz8_0 := blk_frozen BK359.out 0)))
 go_loopg [5] k (fun kq v5 w' => ∃ (x5_1 : Int), v5 = .int .i64 x5_1 ∧ Aside0 (laws_sameStock.l0 kq x5_1 l0_0 l1_0 = some r) ∧ Aside0 (kq ≤ k) ∧ Aside0 (w'.heap[gb358]? = some (.cells #[(.slice A0_0 l0_0.length c0_0)] 26 (0, 0))) ∧ Aside0 (w'.heap[gb359]? = some (.cells #[(.slice A1_0 l1_0.length c1_0)] 26 (0, 0))) ∧ Aside0 (Below w.heap.size w w'))
 case atStart => exact ⟨(0), qz13, H', ⟨Nat.le_refl _⟩, ⟨bk_ BK358.out⟩, ⟨bk_ BK359.out⟩, ⟨by repeat (first | (with_reducible first | exact HB.out | apply below_alloc | apply pw_below_drewN | apply below_drew1 | refine below_set ?_ GE358.out | refine below_set ?_ GE359.out) | exact HB.out)⟩⟩
 case round =>
  clear H'
  try clear c1
  try clear p2
  try clear c3
  try clear c3b0
  try clear c3b1
  try clear c3b2
  try clear c6
  try clear hcz7_0
  try clear hcz8_0
  try clear hfz7_0
  try clear hfz8_0
  obtain ⟨x5_1, rfl, HA, HK1, BK358, BK359, HB⟩ := hrel
  cases gk with
  | zero => exact absurd HA.out (by simp [laws_sameStock.l0])
  | succ k1 =>
   have H := HA.out
   clear HA
   simp only [laws_sameStock.l0] at H
   by_cases c9 : x5_1 < (l0_0.length : Int)
   {
   rw [if_pos c9] at H
   have c9b0 := decide_eq_true c9
   clear c9
   by_cases c10 : 0 ≤ x5_1
   {
   rw [if_pos c10] at H
   have c10b0 := decide_eq_true c10
   clear c10
   by_cases c11 : x5_1 < (l1_0.length : Int)
   {
   rw [if_pos c11] at H
   have c11b0 := decide_eq_true c11
   clear c11
   have HC12 := aM H
   clear H
   have hnb13 := NB358_359.out
   have hnc13 := NB359_358.out
   have hcz14_0 := bc0_ BK358.out
   have hfz14_0 := blk_frozen BK358.out 0
   have p360 : 0 ≤ (x5_1 : Int) := of_decide_eq_true qz4
   have q360 : x5_1 < (l0_0.length : Int) := of_decide_eq_true qz4
   obtain ⟨ad360, A360_2, c360_2, e360, hx360_0, hx360_1, hx360_2, hl360_2, hi360_2⟩ := at_T79 HR0_0.out x5_1 p360 q360
   cases e360
   replace hx360_0 := pw_cell_below HB.out hx360_0
   replace hx360_1 := pw_cell_below HB.out hx360_1
   replace hx360_2 := pw_cell_below HB.out hx360_2
   have HR360_2 := aM hi360_2
   have HC360_2 := aM hl360_2
   clear hi360_2 hl360_2
   replace p360 := eq_true p360
   replace q360 := eq_true q360
   go_upto_region 8 with (first | ((with_reducible refine gate_dst (N := 6) rfl ?_); (try (refine gate_guard (by rfl) ?_; dsimp only)); refine bx_ 6 #[.int .i64 0, .int .i64 0, .slice none 0 0] 79 ?_; intro gb361 hg w15 hbox hb; have n0_ := aM (blk_below (bk_ BK358.out) hb); have n1_ := aM (blk_below (bk_ BK359.out) hb); have n2_ := aM (below_step qz33 hb); have n3_ := aM (hbox); have n4_ := aM ((by rw [hg]; exact (below_size qz33) : w.heap.size ≤ gb361)); have n5_ := aM ((by rw [hg]; exact (below_size qz33) : w.heap.size ≤ gb361)); have n6_ := aM ((by rw [hg]; exact Nat.ne_of_lt (blk_lt (bk_ BK358.out)) : gb358 ≠ gb361)); have n7_ := aM ((by rw [hg]; exact Nat.ne_of_gt (blk_lt (bk_ BK358.out)) : gb361 ≠ gb358)); have n8_ := aM ((by rw [hg]; exact Nat.ne_of_lt (blk_lt (bk_ BK359.out)) : gb359 ≠ gb361)); have n9_ := aM ((by rw [hg]; exact Nat.ne_of_gt (blk_lt (bk_ BK359.out)) : gb361 ≠ gb359)); clear BK358 BK359 HB; have BK358 := n0_; have BK359 := n1_; have HB := n2_; have BK361 := n3_; have GW361 := n4_; have GE361 := n5_; have NB358_361 := n6_; have NB361_358 := n7_; have NB359_361 := n8_; have NB361_359 := n9_; clear n0_ n1_ n2_ n3_ n4_ n5_ n6_ n7_ n8_ n9_; clear hb hbox hg; have hnb16 := NB361_358.out; have hnc16 := NB358_361.out; have hnb17 := NB361_359.out; have hnc17 := NB359_361.out; obtain ⟨hcz18_0, hcz18_1, hcz18_2, hfz18_0, hfz18_1, hfz18_2⟩ := b6_ BK361.out; have hcz19_0 := bc0_ BK359.out; have hfz19_0 := blk_frozen BK359.out 0; have p362 : 0 ≤ (x5_1 : Int) := of_decide_eq_true qz4; have q362 : x5_1 < (l1_0.length : Int) := of_decide_eq_true qz4; obtain ⟨ad362, A362_2, c362_2, e362, hx362_0, hx362_1, hx362_2, hl362_2, hi362_2⟩ := at_T79 HR1_0.out x5_1 p362 q362; cases e362; have hn362_0 : ad362.block ≠ gb361 := Nat.ne_of_lt (Nat.lt_of_lt_of_le (by have := World.block_lt_of_cell? _ _ hx362_0; first | rwa [add_block] at this | exact this) GW361.out); have hn362_1 : ad362.block ≠ gb361 := Nat.ne_of_lt (Nat.lt_of_lt_of_le (by have := World.block_lt_of_cell? _ _ hx362_0; first | rwa [add_block] at this | exact this) GW361.out); have hn362_2 : ad362.block ≠ gb361 := Nat.ne_of_lt (Nat.lt_of_lt_of_le (by have := World.block_lt_of_cell? _ _ hx362_0; first | rwa [add_block] at this | exact this) GW361.out); replace hx362_0 := pw_cell_below HB.out hx362_0; replace hx362_1 := pw_cell_below HB.out hx362_1; replace hx362_2 := pw_cell_below HB.out hx362_2; have HR362_2 := aM hi362_2; have HC362_2 := aM hl362_2; clear hi362_2 hl362_2; replace hx362_0 := (cell_far (p := ⟨gb361, 0, none⟩) qz55 (.int .i64 ((rd_T79 l0_0 x5_1).f0))).trans hx362_0; replace hx362_1 := (cell_far (p := ⟨gb361, 0, none⟩) qz55 (.int .i64 ((rd_T79 l0_0 x5_1).f0))).trans hx362_1; replace hx362_2 := (cell_far (p := ⟨gb361, 0, none⟩) qz55 (.int .i64 ((rd_T79 l0_0 x5_1).f0))).trans hx362_2; replace hx362_0 := (cell_far (p := ⟨gb361, 1, none⟩) qz56 (.int .i64 ((rd_T79 l0_0 x5_1).f1))).trans hx362_0; replace hx362_1 := (cell_far (p := ⟨gb361, 1, none⟩) qz56 (.int .i64 ((rd_T79 l0_0 x5_1).f1))).trans hx362_1; replace hx362_2 := (cell_far (p := ⟨gb361, 1, none⟩) qz56 (.int .i64 ((rd_T79 l0_0 x5_1).f1))).trans hx362_2; replace hx362_0 := (cell_far (p := ⟨gb361, 2, none⟩) qz57 (.slice A360_2 ((rd_T79 l0_0 x5_1).f2).length c360_2)).trans hx362_0; replace hx362_1 := (cell_far (p := ⟨gb361, 2, none⟩) qz57 (.slice A360_2 ((rd_T79 l0_0 x5_1).f2).length c360_2)).trans hx362_1; replace hx362_2 := (cell_far (p := ⟨gb361, 2, none⟩) qz57 (.slice A360_2 ((rd_T79 l0_0 x5_1).f2).length c360_2)).trans hx362_2; (try have hy362_0 := fun (n_ : Nat) => (show (((((w15.drewN n_).setCell ⟨gb361, 0, none⟩ (.int .i64 ((rd_T79 l0_0 x5_1).f0))).setCell ⟨gb361, 1, none⟩ (.int .i64 ((rd_T79 l0_0 x5_1).f1))).setCell ⟨gb361, 2, none⟩ (.slice A360_2 ((rd_T79 l0_0 x5_1).f2).length c360_2))).cell? _ = some _ from hx362_0)); (try have hy362_1 := fun (n_ : Nat) => (show (((((w15.drewN n_).setCell ⟨gb361, 0, none⟩ (.int .i64 ((rd_T79 l0_0 x5_1).f0))).setCell ⟨gb361, 1, none⟩ (.int .i64 ((rd_T79 l0_0 x5_1).f1))).setCell ⟨gb361, 2, none⟩ (.slice A360_2 ((rd_T79 l0_0 x5_1).f2).length c360_2))).cell? _ = some _ from hx362_1)); (try have hy362_2 := fun (n_ : Nat) => (show (((((w15.drewN n_).setCell ⟨gb361, 0, none⟩ (.int .i64 ((rd_T79 l0_0 x5_1).f0))).setCell ⟨gb361, 1, none⟩ (.int .i64 ((rd_T79 l0_0 x5_1).f1))).setCell ⟨gb361, 2, none⟩ (.slice A360_2 ((rd_T79 l0_0 x5_1).f2).length c360_2))).cell? _ = some _ from hx362_2)); clear hn362_0 hn362_1 hn362_2; replace p362 := eq_true p362; replace q362 := eq_true q362) | ((with_reducible refine gate_dst (N := 7) rfl ?_); (try (refine gate_guard (by rfl) ?_; dsimp only)); refine bx_ 7 #[.int .i64 0, .int .i64 0, .slice none 0 0] 79 ?_; intro gb363 hg w20 hbox hb; have n0_ := aM (blk_below (g := gb358) (o := .cells #[.slice (some ad360) l0_0.length c0_0] 26 (0, 0)) qz15 hb); have n1_ := aM (blk_below (g := gb359) (o := .cells #[.slice (some ad362) l1_0.length c1_0] 26 (0, 0)) qz16 hb); have n2_ := aM (blk_below (g := gb361) (o := .cells #[.int .i64 ((rd_T79 l0_0 x5_1).f0), .int .i64 ((rd_T79 l0_0 x5_1).f1), .slice A360_2 ((rd_T79 l0_0 x5_1).f2).length c360_2] 79 (0, 0)) (by (with_reducible repeat (first | refine blk_drewN ?_ _ | refine blk_drew ?_ | refine blk_alloc ?_ _)); refine blk_put (cs := #[.int .i64 ((rd_T79 l0_0 x5_1).f0), .int .i64 ((rd_T79 l0_0 x5_1).f1), .slice none 0 0]) ?_ 2 _ rfl; (with_reducible repeat (first | refine blk_drewN ?_ _ | refine blk_drew ?_ | refine blk_alloc ?_ _)); refine blk_put (cs := #[.int .i64 ((rd_T79 l0_0 x5_1).f0), .int .i64 0, .slice none 0 0]) ?_ 1 _ rfl; (with_reducible repeat (first | refine blk_drewN ?_ _ | refine blk_drew ?_ | refine blk_alloc ?_ _)); refine blk_put (cs := #[.int .i64 0, .int .i64 0, .slice none 0 0]) ?_ 0 _ rfl; exact bk_ BK361.out) hb); have n3_ := aM (below_step qz28 hb); have n4_ := aM (hbox); have n5_ := aM ((by rw [hg]; exact (below_size qz28) : w.heap.size ≤ gb363)); have n6_ := aM ((by rw [hg]; exact (below_size qz28) : w.heap.size ≤ gb363)); have n7_ := aM ((by rw [hg]; exact Nat.ne_of_lt (blk_lt (g := gb358) (o := .cells #[.slice (some ad360) l0_0.length c0_0] 26 (0, 0)) qz15) : gb358 ≠ gb363)); have n8_ := aM ((by rw [hg]; exact Nat.ne_of_gt (blk_lt (g := gb358) (o := .cells #[.slice (some ad360) l0_0.length c0_0] 26 (0, 0)) qz15) : gb363 ≠ gb358)); have n9_ := aM ((by rw [hg]; exact Nat.ne_of_lt (blk_lt (g := gb359) (o := .cells #[.slice (some ad362) l1_0.length c1_0] 26 (0, 0)) qz16) : gb359 ≠ gb363)); have n10_ := aM ((by rw [hg]; exact Nat.ne_of_gt (blk_lt (g := gb359) (o := .cells #[.slice (some ad362) l1_0.length c1_0] 26 (0, 0)) qz16) : gb363 ≠ gb359)); have n11_ := aM ((by rw [hg]; exact Nat.ne_of_lt (blk_lt (g := gb361) (o := .cells #[.int .i64 ((rd_T79 l0_0 x5_1).f0), .int .i64 ((rd_T79 l0_0 x5_1).f1), .slice A360_2 ((rd_T79 l0_0 x5_1).f2).length c360_2] 79 (0, 0)) (by (with_reducible repeat (first | refine blk_drewN ?_ _ | refine blk_drew ?_ | refine blk_alloc ?_ _)); refine blk_put (cs := #[.int .i64 ((rd_T79 l0_0 x5_1).f0), .int .i64 ((rd_T79 l0_0 x5_1).f1), .slice none 0 0]) ?_ 2 _ rfl; (with_reducible repeat (first | refine blk_drewN ?_ _ | refine blk_drew ?_ | refine blk_alloc ?_ _)); refine blk_put (cs := #[.int .i64 ((rd_T79 l0_0 x5_1).f0), .int .i64 0, .slice none 0 0]) ?_ 1 _ rfl; (with_reducible repeat (first | refine blk_drewN ?_ _ | refine blk_drew ?_ | refine blk_alloc ?_ _)); refine blk_put (cs := #[.int .i64 0, .int .i64 0, .slice none 0 0]) ?_ 0 _ rfl; exact bk_ BK361.out)) : gb361 ≠ gb363)); have n12_ := aM ((by rw [hg]; exact Nat.ne_of_gt (blk_lt (g := gb361) (o := .cells #[.int .i64 ((rd_T79 l0_0 x5_1).f0), .int .i64 ((rd_T79 l0_0 x5_1).f1), .slice A360_2 ((rd_T79 l0_0 x5_1).f2).length c360_2] 79 (0, 0)) (by (with_reducible repeat (first | refine blk_drewN ?_ _ | refine blk_drew ?_ | refine blk_alloc ?_ _)); refine blk_put (cs := #[.int .i64 ((rd_T79 l0_0 x5_1).f0), .int .i64 ((rd_T79 l0_0 x5_1).f1), .slice none 0 0]) ?_ 2 _ rfl; (with_reducible repeat (first | refine blk_drewN ?_ _ | refine blk_drew ?_ | refine blk_alloc ?_ _)); refine blk_put (cs := #[.int .i64 ((rd_T79 l0_0 x5_1).f0), .int .i64 0, .slice none 0 0]) ?_ 1 _ rfl; (with_reducible repeat (first | refine blk_drewN ?_ _ | refine blk_drew ?_ | refine blk_alloc ?_ _)); refine blk_put (cs := #[.int .i64 0, .int .i64 0, .slice none 0 0]) ?_ 0 _ rfl; exact bk_ BK361.out)) : gb363 ≠ gb361)); clear BK358 BK359 BK361 HB; have BK358 := n0_; have BK359 := n1_; have BK361 := n2_; have HB := n3_; have BK363 := n4_; have GW363 := n5_; have GE363 := n6_; have NB358_363 := n7_; have NB363_358 := n8_; have NB359_363 := n9_; have NB363_359 := n10_; have NB361_363 := n11_; have NB363_361 := n12_; clear n0_ n1_ n2_ n3_ n4_ n5_ n6_ n7_ n8_ n9_ n10_ n11_ n12_; clear hb hbox hg; have hnb21 := NB363_358.out; have hnc21 := NB358_363.out; have hnb22 := NB363_359.out; have hnc22 := NB359_363.out; have hnb23 := NB363_361.out; have hnc23 := NB361_363.out; obtain ⟨hcz24_0, hcz24_1, hcz24_2, hfz24_0, hfz24_1, hfz24_2⟩ := b6_ BK363.out))
   repeat (go_quiet (first | ((with_reducible refine gate_dst (N := 6) rfl ?_); (try (refine gate_guard (by rfl) ?_; dsimp only)); refine bx_ 6 #[.int .i64 0, .int .i64 0, .slice none 0 0] 79 ?_; intro gb361 hg w15 hbox hb; have n0_ := aM (blk_below (bk_ BK358.out) hb); have n1_ := aM (blk_below (bk_ BK359.out) hb); have n2_ := aM (below_step qz33 hb); have n3_ := aM (hbox); have n4_ := aM ((by rw [hg]; exact (below_size qz33) : w.heap.size ≤ gb361)); have n5_ := aM ((by rw [hg]; exact (below_size qz33) : w.heap.size ≤ gb361)); have n6_ := aM ((by rw [hg]; exact Nat.ne_of_lt (blk_lt (bk_ BK358.out)) : gb358 ≠ gb361)); have n7_ := aM ((by rw [hg]; exact Nat.ne_of_gt (blk_lt (bk_ BK358.out)) : gb361 ≠ gb358)); have n8_ := aM ((by rw [hg]; exact Nat.ne_of_lt (blk_lt (bk_ BK359.out)) : gb359 ≠ gb361)); have n9_ := aM ((by rw [hg]; exact Nat.ne_of_gt (blk_lt (bk_ BK359.out)) : gb361 ≠ gb359)); clear BK358 BK359 HB; have BK358 := n0_; have BK359 := n1_; have HB := n2_; have BK361 := n3_; have GW361 := n4_; have GE361 := n5_; have NB358_361 := n6_; have NB361_358 := n7_; have NB359_361 := n8_; have NB361_359 := n9_; clear n0_ n1_ n2_ n3_ n4_ n5_ n6_ n7_ n8_ n9_; clear hb hbox hg; have hnb16 := NB361_358.out; have hnc16 := NB358_361.out; have hnb17 := NB361_359.out; have hnc17 := NB359_361.out; obtain ⟨hcz18_0, hcz18_1, hcz18_2, hfz18_0, hfz18_1, hfz18_2⟩ := b6_ BK361.out; have hcz19_0 := bc0_ BK359.out; have hfz19_0 := blk_frozen BK359.out 0; have p362 : 0 ≤ (x5_1 : Int) := of_decide_eq_true qz4; have q362 : x5_1 < (l1_0.length : Int) := of_decide_eq_true qz4; obtain ⟨ad362, A362_2, c362_2, e362, hx362_0, hx362_1, hx362_2, hl362_2, hi362_2⟩ := at_T79 HR1_0.out x5_1 p362 q362; cases e362; have hn362_0 : ad362.block ≠ gb361 := Nat.ne_of_lt (Nat.lt_of_lt_of_le (by have := World.block_lt_of_cell? _ _ hx362_0; first | rwa [add_block] at this | exact this) GW361.out); have hn362_1 : ad362.block ≠ gb361 := Nat.ne_of_lt (Nat.lt_of_lt_of_le (by have := World.block_lt_of_cell? _ _ hx362_0; first | rwa [add_block] at this | exact this) GW361.out); have hn362_2 : ad362.block ≠ gb361 := Nat.ne_of_lt (Nat.lt_of_lt_of_le (by have := World.block_lt_of_cell? _ _ hx362_0; first | rwa [add_block] at this | exact this) GW361.out); replace hx362_0 := pw_cell_below HB.out hx362_0; replace hx362_1 := pw_cell_below HB.out hx362_1; replace hx362_2 := pw_cell_below HB.out hx362_2; have HR362_2 := aM hi362_2; have HC362_2 := aM hl362_2; clear hi362_2 hl362_2; replace hx362_0 := (cell_far (p := ⟨gb361, 0, none⟩) qz55 (.int .i64 ((rd_T79 l0_0 x5_1).f0))).trans hx362_0; replace hx362_1 := (cell_far (p := ⟨gb361, 0, none⟩) qz55 (.int .i64 ((rd_T79 l0_0 x5_1).f0))).trans hx362_1; replace hx362_2 := (cell_far (p := ⟨gb361, 0, none⟩) qz55 (.int .i64 ((rd_T79 l0_0 x5_1).f0))).trans hx362_2; replace hx362_0 := (cell_far (p := ⟨gb361, 1, none⟩) qz56 (.int .i64 ((rd_T79 l0_0 x5_1).f1))).trans hx362_0; replace hx362_1 := (cell_far (p := ⟨gb361, 1, none⟩) qz56 (.int .i64 ((rd_T79 l0_0 x5_1).f1))).trans hx362_1; replace hx362_2 := (cell_far (p := ⟨gb361, 1, none⟩) qz56 (.int .i64 ((rd_T79 l0_0 x5_1).f1))).trans hx362_2; replace hx362_0 := (cell_far (p := ⟨gb361, 2, none⟩) qz57 (.slice A360_2 ((rd_T79 l0_0 x5_1).f2).length c360_2)).trans hx362_0; replace hx362_1 := (cell_far (p := ⟨gb361, 2, none⟩) qz57 (.slice A360_2 ((rd_T79 l0_0 x5_1).f2).length c360_2)).trans hx362_1; replace hx362_2 := (cell_far (p := ⟨gb361, 2, none⟩) qz57 (.slice A360_2 ((rd_T79 l0_0 x5_1).f2).length c360_2)).trans hx362_2; (try have hy362_0 := fun (n_ : Nat) => (show (((((w15.drewN n_).setCell ⟨gb361, 0, none⟩ (.int .i64 ((rd_T79 l0_0 x5_1).f0))).setCell ⟨gb361, 1, none⟩ (.int .i64 ((rd_T79 l0_0 x5_1).f1))).setCell ⟨gb361, 2, none⟩ (.slice A360_2 ((rd_T79 l0_0 x5_1).f2).length c360_2))).cell? _ = some _ from hx362_0)); (try have hy362_1 := fun (n_ : Nat) => (show (((((w15.drewN n_).setCell ⟨gb361, 0, none⟩ (.int .i64 ((rd_T79 l0_0 x5_1).f0))).setCell ⟨gb361, 1, none⟩ (.int .i64 ((rd_T79 l0_0 x5_1).f1))).setCell ⟨gb361, 2, none⟩ (.slice A360_2 ((rd_T79 l0_0 x5_1).f2).length c360_2))).cell? _ = some _ from hx362_1)); (try have hy362_2 := fun (n_ : Nat) => (show (((((w15.drewN n_).setCell ⟨gb361, 0, none⟩ (.int .i64 ((rd_T79 l0_0 x5_1).f0))).setCell ⟨gb361, 1, none⟩ (.int .i64 ((rd_T79 l0_0 x5_1).f1))).setCell ⟨gb361, 2, none⟩ (.slice A360_2 ((rd_T79 l0_0 x5_1).f2).length c360_2))).cell? _ = some _ from hx362_2)); clear hn362_0 hn362_1 hn362_2; replace p362 := eq_true p362; replace q362 := eq_true q362) | ((with_reducible refine gate_dst (N := 7) rfl ?_); (try (refine gate_guard (by rfl) ?_; dsimp only)); refine bx_ 7 #[.int .i64 0, .int .i64 0, .slice none 0 0] 79 ?_; intro gb363 hg w20 hbox hb; have n0_ := aM (blk_below (g := gb358) (o := .cells #[.slice (some ad360) l0_0.length c0_0] 26 (0, 0)) qz15 hb); have n1_ := aM (blk_below (g := gb359) (o := .cells #[.slice (some ad362) l1_0.length c1_0] 26 (0, 0)) qz16 hb); have n2_ := aM (blk_below (g := gb361) (o := .cells #[.int .i64 ((rd_T79 l0_0 x5_1).f0), .int .i64 ((rd_T79 l0_0 x5_1).f1), .slice A360_2 ((rd_T79 l0_0 x5_1).f2).length c360_2] 79 (0, 0)) (by (with_reducible repeat (first | refine blk_drewN ?_ _ | refine blk_drew ?_ | refine blk_alloc ?_ _)); refine blk_put (cs := #[.int .i64 ((rd_T79 l0_0 x5_1).f0), .int .i64 ((rd_T79 l0_0 x5_1).f1), .slice none 0 0]) ?_ 2 _ rfl; (with_reducible repeat (first | refine blk_drewN ?_ _ | refine blk_drew ?_ | refine blk_alloc ?_ _)); refine blk_put (cs := #[.int .i64 ((rd_T79 l0_0 x5_1).f0), .int .i64 0, .slice none 0 0]) ?_ 1 _ rfl; (with_reducible repeat (first | refine blk_drewN ?_ _ | refine blk_drew ?_ | refine blk_alloc ?_ _)); refine blk_put (cs := #[.int .i64 0, .int .i64 0, .slice none 0 0]) ?_ 0 _ rfl; exact bk_ BK361.out) hb); have n3_ := aM (below_step qz28 hb); have n4_ := aM (hbox); have n5_ := aM ((by rw [hg]; exact (below_size qz28) : w.heap.size ≤ gb363)); have n6_ := aM ((by rw [hg]; exact (below_size qz28) : w.heap.size ≤ gb363)); have n7_ := aM ((by rw [hg]; exact Nat.ne_of_lt (blk_lt (g := gb358) (o := .cells #[.slice (some ad360) l0_0.length c0_0] 26 (0, 0)) qz15) : gb358 ≠ gb363)); have n8_ := aM ((by rw [hg]; exact Nat.ne_of_gt (blk_lt (g := gb358) (o := .cells #[.slice (some ad360) l0_0.length c0_0] 26 (0, 0)) qz15) : gb363 ≠ gb358)); have n9_ := aM ((by rw [hg]; exact Nat.ne_of_lt (blk_lt (g := gb359) (o := .cells #[.slice (some ad362) l1_0.length c1_0] 26 (0, 0)) qz16) : gb359 ≠ gb363)); have n10_ := aM ((by rw [hg]; exact Nat.ne_of_gt (blk_lt (g := gb359) (o := .cells #[.slice (some ad362) l1_0.length c1_0] 26 (0, 0)) qz16) : gb363 ≠ gb359)); have n11_ := aM ((by rw [hg]; exact Nat.ne_of_lt (blk_lt (g := gb361) (o := .cells #[.int .i64 ((rd_T79 l0_0 x5_1).f0), .int .i64 ((rd_T79 l0_0 x5_1).f1), .slice A360_2 ((rd_T79 l0_0 x5_1).f2).length c360_2] 79 (0, 0)) (by (with_reducible repeat (first | refine blk_drewN ?_ _ | refine blk_drew ?_ | refine blk_alloc ?_ _)); refine blk_put (cs := #[.int .i64 ((rd_T79 l0_0 x5_1).f0), .int .i64 ((rd_T79 l0_0 x5_1).f1), .slice none 0 0]) ?_ 2 _ rfl; (with_reducible repeat (first | refine blk_drewN ?_ _ | refine blk_drew ?_ | refine blk_alloc ?_ _)); refine blk_put (cs := #[.int .i64 ((rd_T79 l0_0 x5_1).f0), .int .i64 0, .slice none 0 0]) ?_ 1 _ rfl; (with_reducible repeat (first | refine blk_drewN ?_ _ | refine blk_drew ?_ | refine blk_alloc ?_ _)); refine blk_put (cs := #[.int .i64 0, .int .i64 0, .slice none 0 0]) ?_ 0 _ rfl; exact bk_ BK361.out)) : gb361 ≠ gb363)); have n12_ := aM ((by rw [hg]; exact Nat.ne_of_gt (blk_lt (g := gb361) (o := .cells #[.int .i64 ((rd_T79 l0_0 x5_1).f0), .int .i64 ((rd_T79 l0_0 x5_1).f1), .slice A360_2 ((rd_T79 l0_0 x5_1).f2).length c360_2] 79 (0, 0)) (by (with_reducible repeat (first | refine blk_drewN ?_ _ | refine blk_drew ?_ | refine blk_alloc ?_ _)); refine blk_put (cs := #[.int .i64 ((rd_T79 l0_0 x5_1).f0), .int .i64 ((rd_T79 l0_0 x5_1).f1), .slice none 0 0]) ?_ 2 _ rfl; (with_reducible repeat (first | refine blk_drewN ?_ _ | refine blk_drew ?_ | refine blk_alloc ?_ _)); refine blk_put (cs := #[.int .i64 ((rd_T79 l0_0 x5_1).f0), .int .i64 0, .slice none 0 0]) ?_ 1 _ rfl; (with_reducible repeat (first | refine blk_drewN ?_ _ | refine blk_drew ?_ | refine blk_alloc ?_ _)); refine blk_put (cs := #[.int .i64 0, .int .i64 0, .slice none 0 0]) ?_ 0 _ rfl; exact bk_ BK361.out)) : gb363 ≠ gb361)); clear BK358 BK359 BK361 HB; have BK358 := n0_; have BK359 := n1_; have BK361 := n2_; have HB := n3_; have BK363 := n4_; have GW363 := n5_; have GE363 := n6_; have NB358_363 := n7_; have NB363_358 := n8_; have NB359_363 := n9_; have NB363_359 := n10_; have NB361_363 := n11_; have NB363_361 := n12_; clear n0_ n1_ n2_ n3_ n4_ n5_ n6_ n7_ n8_ n9_ n10_ n11_ n12_; clear hb hbox hg; have hnb21 := NB363_358.out; have hnc21 := NB358_363.out; have hnb22 := NB363_359.out; have hnc22 := NB359_363.out; have hnb23 := NB363_361.out; have hnc23 := NB361_363.out; obtain ⟨hcz24_0, hcz24_1, hcz24_2, hfz24_0, hfz24_1, hfz24_2⟩ := b6_ BK363.out)); go_upto_region 8 with (first | ((with_reducible refine gate_dst (N := 6) rfl ?_); (try (refine gate_guard (by rfl) ?_; dsimp only)); refine bx_ 6 #[.int .i64 0, .int .i64 0, .slice none 0 0] 79 ?_; intro gb361 hg w15 hbox hb; have n0_ := aM (blk_below (bk_ BK358.out) hb); have n1_ := aM (blk_below (bk_ BK359.out) hb); have n2_ := aM (below_step qz33 hb); have n3_ := aM (hbox); have n4_ := aM ((by rw [hg]; exact (below_size qz33) : w.heap.size ≤ gb361)); have n5_ := aM ((by rw [hg]; exact (below_size qz33) : w.heap.size ≤ gb361)); have n6_ := aM ((by rw [hg]; exact Nat.ne_of_lt (blk_lt (bk_ BK358.out)) : gb358 ≠ gb361)); have n7_ := aM ((by rw [hg]; exact Nat.ne_of_gt (blk_lt (bk_ BK358.out)) : gb361 ≠ gb358)); have n8_ := aM ((by rw [hg]; exact Nat.ne_of_lt (blk_lt (bk_ BK359.out)) : gb359 ≠ gb361)); have n9_ := aM ((by rw [hg]; exact Nat.ne_of_gt (blk_lt (bk_ BK359.out)) : gb361 ≠ gb359)); clear BK358 BK359 HB; have BK358 := n0_; have BK359 := n1_; have HB := n2_; have BK361 := n3_; have GW361 := n4_; have GE361 := n5_; have NB358_361 := n6_; have NB361_358 := n7_; have NB359_361 := n8_; have NB361_359 := n9_; clear n0_ n1_ n2_ n3_ n4_ n5_ n6_ n7_ n8_ n9_; clear hb hbox hg; have hnb16 := NB361_358.out; have hnc16 := NB358_361.out; have hnb17 := NB361_359.out; have hnc17 := NB359_361.out; obtain ⟨hcz18_0, hcz18_1, hcz18_2, hfz18_0, hfz18_1, hfz18_2⟩ := b6_ BK361.out; have hcz19_0 := bc0_ BK359.out; have hfz19_0 := blk_frozen BK359.out 0; have p362 : 0 ≤ (x5_1 : Int) := of_decide_eq_true qz4; have q362 : x5_1 < (l1_0.length : Int) := of_decide_eq_true qz4; obtain ⟨ad362, A362_2, c362_2, e362, hx362_0, hx362_1, hx362_2, hl362_2, hi362_2⟩ := at_T79 HR1_0.out x5_1 p362 q362; cases e362; have hn362_0 : ad362.block ≠ gb361 := Nat.ne_of_lt (Nat.lt_of_lt_of_le (by have := World.block_lt_of_cell? _ _ hx362_0; first | rwa [add_block] at this | exact this) GW361.out); have hn362_1 : ad362.block ≠ gb361 := Nat.ne_of_lt (Nat.lt_of_lt_of_le (by have := World.block_lt_of_cell? _ _ hx362_0; first | rwa [add_block] at this | exact this) GW361.out); have hn362_2 : ad362.block ≠ gb361 := Nat.ne_of_lt (Nat.lt_of_lt_of_le (by have := World.block_lt_of_cell? _ _ hx362_0; first | rwa [add_block] at this | exact this) GW361.out); replace hx362_0 := pw_cell_below HB.out hx362_0; replace hx362_1 := pw_cell_below HB.out hx362_1; replace hx362_2 := pw_cell_below HB.out hx362_2; have HR362_2 := aM hi362_2; have HC362_2 := aM hl362_2; clear hi362_2 hl362_2; replace hx362_0 := (cell_far (p := ⟨gb361, 0, none⟩) qz55 (.int .i64 ((rd_T79 l0_0 x5_1).f0))).trans hx362_0; replace hx362_1 := (cell_far (p := ⟨gb361, 0, none⟩) qz55 (.int .i64 ((rd_T79 l0_0 x5_1).f0))).trans hx362_1; replace hx362_2 := (cell_far (p := ⟨gb361, 0, none⟩) qz55 (.int .i64 ((rd_T79 l0_0 x5_1).f0))).trans hx362_2; replace hx362_0 := (cell_far (p := ⟨gb361, 1, none⟩) qz56 (.int .i64 ((rd_T79 l0_0 x5_1).f1))).trans hx362_0; replace hx362_1 := (cell_far (p := ⟨gb361, 1, none⟩) qz56 (.int .i64 ((rd_T79 l0_0 x5_1).f1))).trans hx362_1; replace hx362_2 := (cell_far (p := ⟨gb361, 1, none⟩) qz56 (.int .i64 ((rd_T79 l0_0 x5_1).f1))).trans hx362_2; replace hx362_0 := (cell_far (p := ⟨gb361, 2, none⟩) qz57 (.slice A360_2 ((rd_T79 l0_0 x5_1).f2).length c360_2)).trans hx362_0; replace hx362_1 := (cell_far (p := ⟨gb361, 2, none⟩) qz57 (.slice A360_2 ((rd_T79 l0_0 x5_1).f2).length c360_2)).trans hx362_1; replace hx362_2 := (cell_far (p := ⟨gb361, 2, none⟩) qz57 (.slice A360_2 ((rd_T79 l0_0 x5_1).f2).length c360_2)).trans hx362_2; (try have hy362_0 := fun (n_ : Nat) => (show (((((w15.drewN n_).setCell ⟨gb361, 0, none⟩ (.int .i64 ((rd_T79 l0_0 x5_1).f0))).setCell ⟨gb361, 1, none⟩ (.int .i64 ((rd_T79 l0_0 x5_1).f1))).setCell ⟨gb361, 2, none⟩ (.slice A360_2 ((rd_T79 l0_0 x5_1).f2).length c360_2))).cell? _ = some _ from hx362_0)); (try have hy362_1 := fun (n_ : Nat) => (show (((((w15.drewN n_).setCell ⟨gb361, 0, none⟩ (.int .i64 ((rd_T79 l0_0 x5_1).f0))).setCell ⟨gb361, 1, none⟩ (.int .i64 ((rd_T79 l0_0 x5_1).f1))).setCell ⟨gb361, 2, none⟩ (.slice A360_2 ((rd_T79 l0_0 x5_1).f2).length c360_2))).cell? _ = some _ from hx362_1)); (try have hy362_2 := fun (n_ : Nat) => (show (((((w15.drewN n_).setCell ⟨gb361, 0, none⟩ (.int .i64 ((rd_T79 l0_0 x5_1).f0))).setCell ⟨gb361, 1, none⟩ (.int .i64 ((rd_T79 l0_0 x5_1).f1))).setCell ⟨gb361, 2, none⟩ (.slice A360_2 ((rd_T79 l0_0 x5_1).f2).length c360_2))).cell? _ = some _ from hx362_2)); clear hn362_0 hn362_1 hn362_2; replace p362 := eq_true p362; replace q362 := eq_true q362) | ((with_reducible refine gate_dst (N := 7) rfl ?_); (try (refine gate_guard (by rfl) ?_; dsimp only)); refine bx_ 7 #[.int .i64 0, .int .i64 0, .slice none 0 0] 79 ?_; intro gb363 hg w20 hbox hb; have n0_ := aM (blk_below (g := gb358) (o := .cells #[.slice (some ad360) l0_0.length c0_0] 26 (0, 0)) qz15 hb); have n1_ := aM (blk_below (g := gb359) (o := .cells #[.slice (some ad362) l1_0.length c1_0] 26 (0, 0)) qz16 hb); have n2_ := aM (blk_below (g := gb361) (o := .cells #[.int .i64 ((rd_T79 l0_0 x5_1).f0), .int .i64 ((rd_T79 l0_0 x5_1).f1), .slice A360_2 ((rd_T79 l0_0 x5_1).f2).length c360_2] 79 (0, 0)) (by (with_reducible repeat (first | refine blk_drewN ?_ _ | refine blk_drew ?_ | refine blk_alloc ?_ _)); refine blk_put (cs := #[.int .i64 ((rd_T79 l0_0 x5_1).f0), .int .i64 ((rd_T79 l0_0 x5_1).f1), .slice none 0 0]) ?_ 2 _ rfl; (with_reducible repeat (first | refine blk_drewN ?_ _ | refine blk_drew ?_ | refine blk_alloc ?_ _)); refine blk_put (cs := #[.int .i64 ((rd_T79 l0_0 x5_1).f0), .int .i64 0, .slice none 0 0]) ?_ 1 _ rfl; (with_reducible repeat (first | refine blk_drewN ?_ _ | refine blk_drew ?_ | refine blk_alloc ?_ _)); refine blk_put (cs := #[.int .i64 0, .int .i64 0, .slice none 0 0]) ?_ 0 _ rfl; exact bk_ BK361.out) hb); have n3_ := aM (below_step qz28 hb); have n4_ := aM (hbox); have n5_ := aM ((by rw [hg]; exact (below_size qz28) : w.heap.size ≤ gb363)); have n6_ := aM ((by rw [hg]; exact (below_size qz28) : w.heap.size ≤ gb363)); have n7_ := aM ((by rw [hg]; exact Nat.ne_of_lt (blk_lt (g := gb358) (o := .cells #[.slice (some ad360) l0_0.length c0_0] 26 (0, 0)) qz15) : gb358 ≠ gb363)); have n8_ := aM ((by rw [hg]; exact Nat.ne_of_gt (blk_lt (g := gb358) (o := .cells #[.slice (some ad360) l0_0.length c0_0] 26 (0, 0)) qz15) : gb363 ≠ gb358)); have n9_ := aM ((by rw [hg]; exact Nat.ne_of_lt (blk_lt (g := gb359) (o := .cells #[.slice (some ad362) l1_0.length c1_0] 26 (0, 0)) qz16) : gb359 ≠ gb363)); have n10_ := aM ((by rw [hg]; exact Nat.ne_of_gt (blk_lt (g := gb359) (o := .cells #[.slice (some ad362) l1_0.length c1_0] 26 (0, 0)) qz16) : gb363 ≠ gb359)); have n11_ := aM ((by rw [hg]; exact Nat.ne_of_lt (blk_lt (g := gb361) (o := .cells #[.int .i64 ((rd_T79 l0_0 x5_1).f0), .int .i64 ((rd_T79 l0_0 x5_1).f1), .slice A360_2 ((rd_T79 l0_0 x5_1).f2).length c360_2] 79 (0, 0)) (by (with_reducible repeat (first | refine blk_drewN ?_ _ | refine blk_drew ?_ | refine blk_alloc ?_ _)); refine blk_put (cs := #[.int .i64 ((rd_T79 l0_0 x5_1).f0), .int .i64 ((rd_T79 l0_0 x5_1).f1), .slice none 0 0]) ?_ 2 _ rfl; (with_reducible repeat (first | refine blk_drewN ?_ _ | refine blk_drew ?_ | refine blk_alloc ?_ _)); refine blk_put (cs := #[.int .i64 ((rd_T79 l0_0 x5_1).f0), .int .i64 0, .slice none 0 0]) ?_ 1 _ rfl; (with_reducible repeat (first | refine blk_drewN ?_ _ | refine blk_drew ?_ | refine blk_alloc ?_ _)); refine blk_put (cs := #[.int .i64 0, .int .i64 0, .slice none 0 0]) ?_ 0 _ rfl; exact bk_ BK361.out)) : gb361 ≠ gb363)); have n12_ := aM ((by rw [hg]; exact Nat.ne_of_gt (blk_lt (g := gb361) (o := .cells #[.int .i64 ((rd_T79 l0_0 x5_1).f0), .int .i64 ((rd_T79 l0_0 x5_1).f1), .slice A360_2 ((rd_T79 l0_0 x5_1).f2).length c360_2] 79 (0, 0)) (by (with_reducible repeat (first | refine blk_drewN ?_ _ | refine blk_drew ?_ | refine blk_alloc ?_ _)); refine blk_put (cs := #[.int .i64 ((rd_T79 l0_0 x5_1).f0), .int .i64 ((rd_T79 l0_0 x5_1).f1), .slice none 0 0]) ?_ 2 _ rfl; (with_reducible repeat (first | refine blk_drewN ?_ _ | refine blk_drew ?_ | refine blk_alloc ?_ _)); refine blk_put (cs := #[.int .i64 ((rd_T79 l0_0 x5_1).f0), .int .i64 0, .slice none 0 0]) ?_ 1 _ rfl; (with_reducible repeat (first | refine blk_drewN ?_ _ | refine blk_drew ?_ | refine blk_alloc ?_ _)); refine blk_put (cs := #[.int .i64 0, .int .i64 0, .slice none 0 0]) ?_ 0 _ rfl; exact bk_ BK361.out)) : gb363 ≠ gb361)); clear BK358 BK359 BK361 HB; have BK358 := n0_; have BK359 := n1_; have BK361 := n2_; have HB := n3_; have BK363 := n4_; have GW363 := n5_; have GE363 := n6_; have NB358_363 := n7_; have NB363_358 := n8_; have NB359_363 := n9_; have NB363_359 := n10_; have NB361_363 := n11_; have NB363_361 := n12_; clear n0_ n1_ n2_ n3_ n4_ n5_ n6_ n7_ n8_ n9_ n10_ n11_ n12_; clear hb hbox hg; have hnb21 := NB363_358.out; have hnc21 := NB358_363.out; have hnb22 := NB363_359.out; have hnc22 := NB359_363.out; have hnb23 := NB363_361.out; have hnc23 := NB361_363.out; obtain ⟨hcz24_0, hcz24_1, hcz24_2, hfz24_0, hfz24_1, hfz24_2⟩ := b6_ BK363.out)))
   (try simp only [Act.put, List.setIfInBounds_toArray, List.set_cons_zero, List.set_cons_succ])
   go_cut [53] (fun v53 wc => ∃ (kq : Nat) (x53_11 : Bool), v53 = .bool x53_11 ∧ Aside0 (laws_sameStock.j1 kq x5_1 x53_11 l0_0 l1_0 ((rd_T79 l0_0 x5_1).f0) ((rd_T79 l0_0 x5_1).f1) ((rd_T79 l0_0 x5_1).f2) ((rd_T79 l1_0 x5_1).f0) ((rd_T79 l1_0 x5_1).f1) ((rd_T79 l1_0 x5_1).f2) = some r) ∧ Aside0 (kq ≤ k1) ∧ Aside0 (wc.heap[gb358]? = some (.cells #[(.slice (some ad360) l0_0.length c0_0)] 26 (0, 0))) ∧ Aside0 (wc.heap[gb359]? = some (.cells #[(.slice (some ad362) l1_0.length c1_0)] 26 (0, 0))) ∧ Aside0 (wc.heap[gb361]? = some (.cells #[.int .i64 ((rd_T79 l0_0 x5_1).f0), .int .i64 ((rd_T79 l0_0 x5_1).f1), (.slice A360_2 ((rd_T79 l0_0 x5_1).f2).length c360_2)] 79 (0, 0))) ∧ Aside0 (wc.heap[gb363]? = some (.cells #[.int .i64 ((rd_T79 l1_0 x5_1).f0), .int .i64 ((rd_T79 l1_0 x5_1).f1), (.slice A362_2 ((rd_T79 l1_0 x5_1).f2).length c362_2)] 79 (0, 0))) ∧ Aside0 (Below w.heap.size w wc))
   case first =>
    have H := HC12.out
    clear HC12
    by_cases c25 : ((rd_T79 l0_0 x5_1).f0) = ((rd_T79 l1_0 x5_1).f0)
    {
    rw [if_pos c25] at H
    have c25b0 := beq_iff_eq.mpr c25
    have c25b1 := bne_eq_false_iff_eq.mpr c25
    clear c25
    (first | rw [c25b0] | (simp only [i64_w, i32_w]; rw [c25b0]) | rw [@decide_eq_true _ _ (of_decide_eq_true c25b0)] | rw [@decide_eq_true _ _ (of_decide_eq_true c25b1)] | skip)
    by_cases c26 : ((rd_T79 l0_0 x5_1).f1) = ((rd_T79 l1_0 x5_1).f1)
    {
    rw [if_pos c26] at H
    have c26b0 := beq_iff_eq.mpr c26
    have c26b1 := bne_eq_false_iff_eq.mpr c26
    clear c26
    have H' := aM H
    clear H
    have hnb27 := NB361_358.out
    have hnc27 := NB358_361.out
    have hnb28 := NB361_359.out
    have hnc28 := NB359_361.out
    have hnb29 := NB361_363.out
    have hnc29 := NB363_361.out
    obtain ⟨hcz30_0, hcz30_1, hcz30_2, hfz30_0, hfz30_1, hfz30_2⟩ := b6_ BK361.out
    have hnb31 := NB363_358.out
    have hnc31 := NB358_363.out
    have hnb32 := NB363_359.out
    have hnc32 := NB359_363.out
    obtain ⟨hcz33_0, hcz33_1, hcz33_2, hfz33_0, hfz33_1, hfz33_2⟩ := b6_ BK363.out
    go_wp2
    repeat (go_quiet (fail); try go_wp2)
    go_meet
    case rel => exact ⟨_, (((((rd_T79 l0_0 x5_1).f2).length : Int) != (((rd_T79 l1_0 x5_1).f2).length : Int))), qz13, H', ⟨by have := HK1.out; first | omega | exact Nat.le_refl _⟩, ⟨by (with_reducible repeat (first | refine blk_drewN ?_ _ | refine blk_drew ?_ | refine blk_alloc ?_ _)); refine blk_far ?_ NB358_363.out _; (with_reducible repeat (first | refine blk_drewN ?_ _ | refine blk_drew ?_ | refine blk_alloc ?_ _)); refine blk_far ?_ NB358_363.out _; (with_reducible repeat (first | refine blk_drewN ?_ _ | refine blk_drew ?_ | refine blk_alloc ?_ _)); refine blk_far ?_ NB358_363.out _; exact bk_ BK358.out⟩, ⟨by (with_reducible repeat (first | refine blk_drewN ?_ _ | refine blk_drew ?_ | refine blk_alloc ?_ _)); refine blk_far ?_ NB359_363.out _; (with_reducible repeat (first | refine blk_drewN ?_ _ | refine blk_drew ?_ | refine blk_alloc ?_ _)); refine blk_far ?_ NB359_363.out _; (with_reducible repeat (first | refine blk_drewN ?_ _ | refine blk_drew ?_ | refine blk_alloc ?_ _)); refine blk_far ?_ NB359_363.out _; exact bk_ BK359.out⟩, ⟨by (with_reducible repeat (first | refine blk_drewN ?_ _ | refine blk_drew ?_ | refine blk_alloc ?_ _)); refine blk_far ?_ NB361_363.out _; (with_reducible repeat (first | refine blk_drewN ?_ _ | refine blk_drew ?_ | refine blk_alloc ?_ _)); refine blk_far ?_ NB361_363.out _; (with_reducible repeat (first | refine blk_drewN ?_ _ | refine blk_drew ?_ | refine blk_alloc ?_ _)); refine blk_far ?_ NB361_363.out _; exact bk_ BK361.out⟩, ⟨by (with_reducible repeat (first | refine blk_drewN ?_ _ | refine blk_drew ?_ | refine blk_alloc ?_ _)); refine blk_put (cs := #[.int .i64 ((rd_T79 l1_0 x5_1).f0), .int .i64 ((rd_T79 l1_0 x5_1).f1), .slice none 0 0]) ?_ 2 _ rfl; (with_reducible repeat (first | refine blk_drewN ?_ _ | refine blk_drew ?_ | refine blk_alloc ?_ _)); refine blk_put (cs := #[.int .i64 ((rd_T79 l1_0 x5_1).f0), .int .i64 0, .slice none 0 0]) ?_ 1 _ rfl; (with_reducible repeat (first | refine blk_drewN ?_ _ | refine blk_drew ?_ | refine blk_alloc ?_ _)); refine blk_put (cs := #[.int .i64 0, .int .i64 0, .slice none 0 0]) ?_ 0 _ rfl; exact bk_ BK363.out⟩, ⟨by repeat (first | (with_reducible first | exact HB.out | apply below_alloc | apply pw_below_drewN | apply below_drew1 | refine below_set ?_ GE358.out | refine below_set ?_ GE359.out | refine below_set ?_ GE361.out | refine below_set ?_ GE363.out) | exact HB.out)⟩⟩
    }
    {
    rw [if_neg c26] at H
    have c26b0 := beq_eq_false_iff_ne.mpr c26
    have c26b1 := bne_iff_ne.mpr c26
    have H' := aM H
    clear H
    have hnb34 := NB361_358.out
    have hnc34 := NB358_361.out
    have hnb35 := NB361_359.out
    have hnc35 := NB359_361.out
    have hnb36 := NB361_363.out
    have hnc36 := NB363_361.out
    obtain ⟨hcz37_0, hcz37_1, hcz37_2, hfz37_0, hfz37_1, hfz37_2⟩ := b6_ BK361.out
    have hnb38 := NB363_358.out
    have hnc38 := NB358_363.out
    have hnb39 := NB363_359.out
    have hnc39 := NB359_363.out
    obtain ⟨hcz40_0, hcz40_1, hcz40_2, hfz40_0, hfz40_1, hfz40_2⟩ := b6_ BK363.out
    go_wp2
    repeat (go_quiet (fail); try go_wp2)
    go_meet
    case rel => exact ⟨_, (true), qz13, H', ⟨by have := HK1.out; first | omega | exact Nat.le_refl _⟩, ⟨by (with_reducible repeat (first | refine blk_drewN ?_ _ | refine blk_drew ?_ | refine blk_alloc ?_ _)); refine blk_far ?_ NB358_363.out _; (with_reducible repeat (first | refine blk_drewN ?_ _ | refine blk_drew ?_ | refine blk_alloc ?_ _)); refine blk_far ?_ NB358_363.out _; (with_reducible repeat (first | refine blk_drewN ?_ _ | refine blk_drew ?_ | refine blk_alloc ?_ _)); refine blk_far ?_ NB358_363.out _; exact bk_ BK358.out⟩, ⟨by (with_reducible repeat (first | refine blk_drewN ?_ _ | refine blk_drew ?_ | refine blk_alloc ?_ _)); refine blk_far ?_ NB359_363.out _; (with_reducible repeat (first | refine blk_drewN ?_ _ | refine blk_drew ?_ | refine blk_alloc ?_ _)); refine blk_far ?_ NB359_363.out _; (with_reducible repeat (first | refine blk_drewN ?_ _ | refine blk_drew ?_ | refine blk_alloc ?_ _)); refine blk_far ?_ NB359_363.out _; exact bk_ BK359.out⟩, ⟨by (with_reducible repeat (first | refine blk_drewN ?_ _ | refine blk_drew ?_ | refine blk_alloc ?_ _)); refine blk_far ?_ NB361_363.out _; (with_reducible repeat (first | refine blk_drewN ?_ _ | refine blk_drew ?_ | refine blk_alloc ?_ _)); refine blk_far ?_ NB361_363.out _; (with_reducible repeat (first | refine blk_drewN ?_ _ | refine blk_drew ?_ | refine blk_alloc ?_ _)); refine blk_far ?_ NB361_363.out _; exact bk_ BK361.out⟩, ⟨by (with_reducible repeat (first | refine blk_drewN ?_ _ | refine blk_drew ?_ | refine blk_alloc ?_ _)); refine blk_put (cs := #[.int .i64 ((rd_T79 l1_0 x5_1).f0), .int .i64 ((rd_T79 l1_0 x5_1).f1), .slice none 0 0]) ?_ 2 _ rfl; (with_reducible repeat (first | refine blk_drewN ?_ _ | refine blk_drew ?_ | refine blk_alloc ?_ _)); refine blk_put (cs := #[.int .i64 ((rd_T79 l1_0 x5_1).f0), .int .i64 0, .slice none 0 0]) ?_ 1 _ rfl; (with_reducible repeat (first | refine blk_drewN ?_ _ | refine blk_drew ?_ | refine blk_alloc ?_ _)); refine blk_put (cs := #[.int .i64 0, .int .i64 0, .slice none 0 0]) ?_ 0 _ rfl; exact bk_ BK363.out⟩, ⟨by repeat (first | (with_reducible first | exact HB.out | apply below_alloc | apply pw_below_drewN | apply below_drew1 | refine below_set ?_ GE358.out | refine below_set ?_ GE359.out | refine below_set ?_ GE361.out | refine below_set ?_ GE363.out) | exact HB.out)⟩⟩
    }
    }
    {
    rw [if_neg c25] at H
    have c25b0 := beq_eq_false_iff_ne.mpr c25
    have c25b1 := bne_iff_ne.mpr c25
    (first | rw [c25b0] | (simp only [i64_w, i32_w]; rw [c25b0]) | rw [@decide_eq_false _ _ (of_decide_eq_false c25b0)] | rw [@decide_eq_false _ _ (of_decide_eq_false c25b1)] | skip)
    have H' := aM H
    clear H
    have hnb41 := NB361_358.out
    have hnc41 := NB358_361.out
    have hnb42 := NB361_359.out
    have hnc42 := NB359_361.out
    have hnb43 := NB361_363.out
    have hnc43 := NB363_361.out
    obtain ⟨hcz44_0, hcz44_1, hcz44_2, hfz44_0, hfz44_1, hfz44_2⟩ := b6_ BK361.out
    have hnb45 := NB363_358.out
    have hnc45 := NB358_363.out
    have hnb46 := NB363_359.out
    have hnc46 := NB359_363.out
    obtain ⟨hcz47_0, hcz47_1, hcz47_2, hfz47_0, hfz47_1, hfz47_2⟩ := b6_ BK363.out
    go_wp2
    repeat (go_quiet (fail); try go_wp2)
    go_meet
    case rel => exact ⟨_, (true), qz13, H', ⟨by have := HK1.out; first | omega | exact Nat.le_refl _⟩, ⟨by (with_reducible repeat (first | refine blk_drewN ?_ _ | refine blk_drew ?_ | refine blk_alloc ?_ _)); refine blk_far ?_ NB358_363.out _; (with_reducible repeat (first | refine blk_drewN ?_ _ | refine blk_drew ?_ | refine blk_alloc ?_ _)); refine blk_far ?_ NB358_363.out _; (with_reducible repeat (first | refine blk_drewN ?_ _ | refine blk_drew ?_ | refine blk_alloc ?_ _)); refine blk_far ?_ NB358_363.out _; exact bk_ BK358.out⟩, ⟨by (with_reducible repeat (first | refine blk_drewN ?_ _ | refine blk_drew ?_ | refine blk_alloc ?_ _)); refine blk_far ?_ NB359_363.out _; (with_reducible repeat (first | refine blk_drewN ?_ _ | refine blk_drew ?_ | refine blk_alloc ?_ _)); refine blk_far ?_ NB359_363.out _; (with_reducible repeat (first | refine blk_drewN ?_ _ | refine blk_drew ?_ | refine blk_alloc ?_ _)); refine blk_far ?_ NB359_363.out _; exact bk_ BK359.out⟩, ⟨by (with_reducible repeat (first | refine blk_drewN ?_ _ | refine blk_drew ?_ | refine blk_alloc ?_ _)); refine blk_far ?_ NB361_363.out _; (with_reducible repeat (first | refine blk_drewN ?_ _ | refine blk_drew ?_ | refine blk_alloc ?_ _)); refine blk_far ?_ NB361_363.out _; (with_reducible repeat (first | refine blk_drewN ?_ _ | refine blk_drew ?_ | refine blk_alloc ?_ _)); refine blk_far ?_ NB361_363.out _; exact bk_ BK361.out⟩, ⟨by (with_reducible repeat (first | refine blk_drewN ?_ _ | refine blk_drew ?_ | refine blk_alloc ?_ _)); refine blk_put (cs := #[.int .i64 ((rd_T79 l1_0 x5_1).f0), .int .i64 ((rd_T79 l1_0 x5_1).f1), .slice none 0 0]) ?_ 2 _ rfl; (with_reducible repeat (first | refine blk_drewN ?_ _ | refine blk_drew ?_ | refine blk_alloc ?_ _)); refine blk_put (cs := #[.int .i64 ((rd_T79 l1_0 x5_1).f0), .int .i64 0, .slice none 0 0]) ?_ 1 _ rfl; (with_reducible repeat (first | refine blk_drewN ?_ _ | refine blk_drew ?_ | refine blk_alloc ?_ _)); refine blk_put (cs := #[.int .i64 0, .int .i64 0, .slice none 0 0]) ?_ 0 _ rfl; exact bk_ BK363.out⟩, ⟨by repeat (first | (with_reducible first | exact HB.out | apply below_alloc | apply pw_below_drewN | apply below_drew1 | refine below_set ?_ GE358.out | refine below_set ?_ GE359.out | refine below_set ?_ GE361.out | refine below_set ?_ GE363.out) | exact HB.out)⟩⟩
    }
   case rest =>
    clear HC12
    try clear c1
    try clear c2
    try clear p2
    try clear c3
    try clear c3b0
    try clear c3b1
    try clear c3b2
    try clear p3
    try clear q3
    try clear hx3
    try clear c4
    try clear c6
    try clear c9
    try clear c9b0
    try clear c10
    try clear c10b0
    try clear c11
    try clear c11b0
    try clear c13
    try clear c16
    try clear c17
    try clear c19
    try clear c21
    try clear c22
    try clear c23
    try clear c25
    try clear c25b0
    try clear c25b1
    try clear c26
    try clear c26b0
    try clear c26b1
    try clear c27
    try clear c28
    try clear c29
    try clear c31
    try clear c32
    try clear c34
    try clear c35
    try clear c36
    try clear p36
    try clear q36
    try clear hx36
    try clear c38
    try clear c39
    try clear c41
    try clear c42
    try clear c43
    try clear c45
    try clear c46
    try clear hcz14_0
    try clear hcz18_0
    try clear hcz18_1
    try clear hcz18_2
    try clear hcz19_0
    try clear hcz24_0
    try clear hcz24_1
    try clear hcz24_2
    try clear hcz30_0
    try clear hcz30_1
    try clear hcz30_2
    try clear hcz33_0
    try clear hcz33_1
    try clear hcz33_2
    try clear hcz37_0
    try clear hcz37_1
    try clear hcz37_2
    try clear hcz40_0
    try clear hcz40_1
    try clear hcz40_2
    try clear hcz44_0
    try clear hcz44_1
    try clear hcz44_2
    try clear hcz47_0
    try clear hcz47_1
    try clear hcz47_2
    try clear hcz7_0
    try clear hcz8_0
    try clear hfz14_0
    try clear hfz18_0
    try clear hfz18_1
    try clear hfz18_2
    try clear hfz19_0
    try clear hfz24_0
    try clear hfz24_1
    try clear hfz24_2
    try clear hfz30_0
    try clear hfz30_1
    try clear hfz30_2
    try clear hfz33_0
    try clear hfz33_1
    try clear hfz33_2
    try clear hfz37_0
    try clear hfz37_1
    try clear hfz37_2
    try clear hfz40_0
    try clear hfz40_1
    try clear hfz40_2
    try clear hfz44_0
    try clear hfz44_1
    try clear hfz44_2
    try clear hfz47_0
    try clear hfz47_1
    try clear hfz47_2
    try clear hfz7_0
    try clear hfz8_0
    try clear hx360_0
    try clear hx360_1
    try clear hx360_2
    try clear hx362_0
    try clear hx362_1
    try clear hx362_2
    try clear p2
    try clear p360
    try clear p362
    try clear q360
    try clear q362
    obtain ⟨kq, x53_11, rfl, HA, HJ11, BK358, BK359, BK361, BK363, HB⟩ := hcut
    cases kq with
    | zero => exact absurd HA.out (by simp [laws_sameStock.j1])
    | succ kj11 =>
     have H := HA.out
     clear HA
     simp only [laws_sameStock.j1] at H
     by_cases c48 : x53_11 = true
     {
     subst c48
     rw [if_pos rfl] at H
     obtain rfl := Option.some.inj H
     simp only [Option.some.injEq, Prod.mk.injEq] at H
     obtain ⟨rfl⟩ := H
     go_wp2
     repeat (go_quiet (fail); try go_wp2)
     go_ret
     exact ⟨by first | rfl | (simp [errW_none, errW_some] <;> rfl) | (simp [*, errW_none, errW_some] <;> rfl), by repeat (first | (with_reducible first | exact HB.out | apply below_alloc | apply pw_below_drewN | apply below_drew1 | refine below_set ?_ GE358.out | refine below_set ?_ GE359.out | refine below_set ?_ GE361.out | refine below_set ?_ GE363.out) | exact HB.out)⟩
     }
     {
     replace c48 := Bool.eq_false_iff.mpr c48
     subst c48
     rw [if_neg (show ¬ (false = true) by decide)] at H
     have H' := aM H
     clear H
     go_wp2
     repeat (go_quiet (fail); try go_wp2)
     go_loopg [8] kj11 (fun kq v8 w' => ∃ (x8_3 : Int), v8 = .int .i64 x8_3 ∧ Aside0 (laws_sameStock.l1 kq x5_1 x8_3 l0_0 l1_0 ((rd_T79 l0_0 x5_1).f0) ((rd_T79 l0_0 x5_1).f1) ((rd_T79 l0_0 x5_1).f2) ((rd_T79 l1_0 x5_1).f0) ((rd_T79 l1_0 x5_1).f1) ((rd_T79 l1_0 x5_1).f2) = some r) ∧ Aside0 (kq ≤ kj11) ∧ Aside0 (w'.heap[gb358]? = some (.cells #[(.slice (some ad360) l0_0.length c0_0)] 26 (0, 0))) ∧ Aside0 (w'.heap[gb359]? = some (.cells #[(.slice (some ad362) l1_0.length c1_0)] 26 (0, 0))) ∧ Aside0 (w'.heap[gb361]? = some (.cells #[.int .i64 ((rd_T79 l0_0 x5_1).f0), .int .i64 ((rd_T79 l0_0 x5_1).f1), (.slice A360_2 ((rd_T79 l0_0 x5_1).f2).length c360_2)] 79 (0, 0))) ∧ Aside0 (w'.heap[gb363]? = some (.cells #[.int .i64 ((rd_T79 l1_0 x5_1).f0), .int .i64 ((rd_T79 l1_0 x5_1).f1), (.slice A362_2 ((rd_T79 l1_0 x5_1).f2).length c362_2)] 79 (0, 0))) ∧ Aside0 (Below w.heap.size w w'))
     case atStart => exact ⟨(0), qz13, H', ⟨Nat.le_refl _⟩, ⟨bk_ BK358.out⟩, ⟨bk_ BK359.out⟩, ⟨bk_ BK361.out⟩, ⟨bk_ BK363.out⟩, ⟨by repeat (first | (with_reducible first | exact HB.out | apply below_alloc | apply pw_below_drewN | apply below_drew1 | refine below_set ?_ GE358.out | refine below_set ?_ GE359.out | refine below_set ?_ GE361.out | refine below_set ?_ GE363.out) | exact HB.out)⟩⟩
     case round =>
      clear H'
      try clear c1
      try clear c2
      try clear p2
      try clear c3
      try clear c3b0
      try clear c3b1
      try clear c3b2
      try clear p3
      try clear q3
      try clear hx3
      try clear c4
      try clear c6
      try clear c9
      try clear c9b0
      try clear c10
      try clear c10b0
      try clear c11
      try clear c11b0
      try clear c13
      try clear c16
      try clear c17
      try clear c19
      try clear c21
      try clear c22
      try clear c23
      try clear c25
      try clear c25b0
      try clear c25b1
      try clear c26
      try clear c26b0
      try clear c26b1
      try clear c27
      try clear c28
      try clear c29
      try clear c31
      try clear c32
      try clear c34
      try clear c35
      try clear c36
      try clear p36
      try clear q36
      try clear hx36
      try clear c38
      try clear c39
      try clear c41
      try clear c42
      try clear c43
      try clear c45
      try clear c46
      try clear c48
      try clear hcz14_0
      try clear hcz18_0
      try clear hcz18_1
      try clear hcz18_2
      try clear hcz19_0
      try clear hcz24_0
      try clear hcz24_1
      try clear hcz24_2
      try clear hcz30_0
      try clear hcz30_1
      try clear hcz30_2
      try clear hcz33_0
      try clear hcz33_1
      try clear hcz33_2
      try clear hcz37_0
      try clear hcz37_1
      try clear hcz37_2
      try clear hcz40_0
      try clear hcz40_1
      try clear hcz40_2
      try clear hcz44_0
      try clear hcz44_1
      try clear hcz44_2
      try clear hcz47_0
      try clear hcz47_1
      try clear hcz47_2
      try clear hcz7_0
      try clear hcz8_0
      try clear hfz14_0
      try clear hfz18_0
      try clear hfz18_1
      try clear hfz18_2
      try clear hfz19_0
      try clear hfz24_0
      try clear hfz24_1
      try clear hfz24_2
      try clear hfz30_0
      try clear hfz30_1
      try clear hfz30_2
      try clear hfz33_0
      try clear hfz33_1
      try clear hfz33_2
      try clear hfz37_0
      try clear hfz37_1
      try clear hfz37_2
      try clear hfz40_0
      try clear hfz40_1
      try clear hfz40_2
      try clear hfz44_0
      try clear hfz44_1
      try clear hfz44_2
      try clear hfz47_0
      try clear hfz47_1
      try clear hfz47_2
      try clear hfz7_0
      try clear hfz8_0
      try clear hx360_0
      try clear hx360_1
      try clear hx360_2
      try clear hx362_0
      try clear hx362_1
      try clear hx362_2
      try clear p2
      try clear p3
      try clear p36
      try clear p360
      try clear p362
      try clear q3
      try clear q36
      try clear q360
      try clear q362
      obtain ⟨x8_3, rfl, HA, HK3, BK358, BK359, BK361, BK363, HB⟩ := hrel
      cases gk with
      | zero => exact absurd HA.out (by simp [laws_sameStock.l1])
      | succ k3 =>
       have H := HA.out
       clear HA
       simp only [laws_sameStock.l1] at H
       by_cases c49 : x8_3 < (((rd_T79 l0_0 x5_1).f2).length : Int)
       {
       rw [if_pos c49] at H
       have c49b0 := decide_eq_true c49
       clear c49
       by_cases c50 : 0 ≤ x8_3
       {
       rw [if_pos c50] at H
       have c50b0 := decide_eq_true c50
       clear c50
       by_cases c51 : x8_3 < (((rd_T79 l1_0 x5_1).f2).length : Int)
       {
       rw [if_pos c51] at H
       have c51b0 := decide_eq_true c51
       clear c51
       by_cases c52 : (!(((rd_T72 ((rd_T79 l0_0 x5_1).f2) x8_3).f0) == ((rd_T72 ((rd_T79 l1_0 x5_1).f2) x8_3).f0)) || (!(((rd_T72 ((rd_T79 l0_0 x5_1).f2) x8_3).f1) == ((rd_T72 ((rd_T79 l1_0 x5_1).f2) x8_3).f1)) || (!(((rd_T72 ((rd_T79 l0_0 x5_1).f2) x8_3).f2) == ((rd_T72 ((rd_T79 l1_0 x5_1).f2) x8_3).f2))))) = true
       {
       rw [if_pos c52] at H
       have c52b0 : (!(((rd_T72 ((rd_T79 l0_0 x5_1).f2) x8_3).f0) == ((rd_T72 ((rd_T79 l1_0 x5_1).f2) x8_3).f0)) || (!(((rd_T72 ((rd_T79 l0_0 x5_1).f2) x8_3).f1) == ((rd_T72 ((rd_T79 l1_0 x5_1).f2) x8_3).f1)) || (!(((rd_T72 ((rd_T79 l0_0 x5_1).f2) x8_3).f2) == ((rd_T72 ((rd_T79 l1_0 x5_1).f2) x8_3).f2))))) = true := c52
       clear c52
       obtain rfl := Option.some.inj H
       simp only [Option.some.injEq, Prod.mk.injEq] at H
       obtain ⟨rfl⟩ := H
       have hnb53 := NB361_358.out
       have hnc53 := NB358_361.out
       have hnb54 := NB361_359.out
       have hnc54 := NB359_361.out
       have hnb55 := NB361_363.out
       have hnc55 := NB363_361.out
       obtain ⟨hcz56_0, hcz56_1, hcz56_2, hfz56_0, hfz56_1, hfz56_2⟩ := b6_ BK361.out
       have p364 : 0 ≤ (x8_3 : Int) := of_decide_eq_true qz4
       have q364 : x8_3 < (((rd_T79 l0_0 x5_1).f2).length : Int) := of_decide_eq_true qz4
       obtain ⟨ad364, e364, hx364_0, hx364_1, hx364_2⟩ := at_T72 HR360_2.out x8_3 p364 q364
       cases e364
       replace hx364_0 := pw_cell_below HB.out hx364_0
       replace hx364_1 := pw_cell_below HB.out hx364_1
       replace hx364_2 := pw_cell_below HB.out hx364_2
       replace p364 := eq_true p364
       replace q364 := eq_true q364
       have hnb57 := NB363_358.out
       have hnc57 := NB358_363.out
       have hnb58 := NB363_359.out
       have hnc58 := NB359_363.out
       obtain ⟨hcz59_0, hcz59_1, hcz59_2, hfz59_0, hfz59_1, hfz59_2⟩ := b6_ BK363.out
       have p365 : 0 ≤ (x8_3 : Int) := of_decide_eq_true qz4
       have q365 : x8_3 < (((rd_T79 l1_0 x5_1).f2).length : Int) := of_decide_eq_true qz4
       obtain ⟨ad365, e365, hx365_0, hx365_1, hx365_2⟩ := at_T72 HR362_2.out x8_3 p365 q365
       cases e365
       replace hx365_0 := pw_cell_below HB.out hx365_0
       replace hx365_1 := pw_cell_below HB.out hx365_1
       replace hx365_2 := pw_cell_below HB.out hx365_2
       replace p365 := eq_true p365
       replace q365 := eq_true q365
       go_wp2
       repeat (go_quiet (fail); try go_wp2)
       go_ret
       exact ⟨by first | rfl | (simp [errW_none, errW_some] <;> rfl) | (simp [*, errW_none, errW_some] <;> rfl), by repeat (first | (with_reducible first | exact HB.out | apply below_alloc | apply pw_below_drewN | apply below_drew1 | refine below_set ?_ GE358.out | refine below_set ?_ GE359.out | refine below_set ?_ GE361.out | refine below_set ?_ GE363.out) | exact HB.out)⟩
       }
       {
       rw [if_neg c52] at H
       have c52b0 : (!(((rd_T72 ((rd_T79 l0_0 x5_1).f2) x8_3).f0) == ((rd_T72 ((rd_T79 l1_0 x5_1).f2) x8_3).f0)) || (!(((rd_T72 ((rd_T79 l0_0 x5_1).f2) x8_3).f1) == ((rd_T72 ((rd_T79 l1_0 x5_1).f2) x8_3).f1)) || (!(((rd_T72 ((rd_T79 l0_0 x5_1).f2) x8_3).f2) == ((rd_T72 ((rd_T79 l1_0 x5_1).f2) x8_3).f2))))) = false := by simpa using c52
       clear c52
       have H' := aM H
       clear H
       have hnb60 := NB361_358.out
       have hnc60 := NB358_361.out
       have hnb61 := NB361_359.out
       have hnc61 := NB359_361.out
       have hnb62 := NB361_363.out
       have hnc62 := NB363_361.out
       obtain ⟨hcz63_0, hcz63_1, hcz63_2, hfz63_0, hfz63_1, hfz63_2⟩ := b6_ BK361.out
       have p364 : 0 ≤ (x8_3 : Int) := of_decide_eq_true qz4
       have q364 : x8_3 < (((rd_T79 l0_0 x5_1).f2).length : Int) := of_decide_eq_true qz4
       obtain ⟨ad364, e364, hx364_0, hx364_1, hx364_2⟩ := at_T72 HR360_2.out x8_3 p364 q364
       cases e364
       replace hx364_0 := pw_cell_below HB.out hx364_0
       replace hx364_1 := pw_cell_below HB.out hx364_1
       replace hx364_2 := pw_cell_below HB.out hx364_2
       replace p364 := eq_true p364
       replace q364 := eq_true q364
       have hnb64 := NB363_358.out
       have hnc64 := NB358_363.out
       have hnb65 := NB363_359.out
       have hnc65 := NB359_363.out
       obtain ⟨hcz66_0, hcz66_1, hcz66_2, hfz66_0, hfz66_1, hfz66_2⟩ := b6_ BK363.out
       have p365 : 0 ≤ (x8_3 : Int) := of_decide_eq_true qz4
       have q365 : x8_3 < (((rd_T79 l1_0 x5_1).f2).length : Int) := of_decide_eq_true qz4
       obtain ⟨ad365, e365, hx365_0, hx365_1, hx365_2⟩ := at_T72 HR362_2.out x8_3 p365 q365
       cases e365
       replace hx365_0 := pw_cell_below HB.out hx365_0
       replace hx365_1 := pw_cell_below HB.out hx365_1
       replace hx365_2 := pw_cell_below HB.out hx365_2
       replace p365 := eq_true p365
       replace q365 := eq_true q365
       go_wp2
       repeat (go_quiet (fail); try go_wp2)
       go_roundg k3
       case measure => have := HK1.out; have := HJ11.out; have := HK3.out; omega
       case rel => exact ⟨(wrap64 (x8_3 + 1)), qz13, H', ⟨by have := HK1.out; have := HJ11.out; have := HK3.out; omega⟩, ⟨bk_ BK358.out⟩, ⟨bk_ BK359.out⟩, ⟨bk_ BK361.out⟩, ⟨bk_ BK363.out⟩, ⟨by repeat (first | (with_reducible first | exact HB.out | apply below_alloc | apply pw_below_drewN | apply below_drew1 | refine below_set ?_ GE358.out | refine below_set ?_ GE359.out | refine below_set ?_ GE361.out | refine below_set ?_ GE363.out) | exact HB.out)⟩⟩
       }
       }
       {
       rw [if_neg c51] at H
       exact absurd H (by simp)
       }
       }
       {
       rw [if_neg c50] at H
       exact absurd H (by simp)
       }
       }
       {
       rw [if_neg c49] at H
       have c49b0 := decide_eq_false c49
       clear c49
       have H' := aM H
       clear H
       have hnb67 := NB361_358.out
       have hnc67 := NB358_361.out
       have hnb68 := NB361_359.out
       have hnc68 := NB359_361.out
       have hnb69 := NB361_363.out
       have hnc69 := NB363_361.out
       obtain ⟨hcz70_0, hcz70_1, hcz70_2, hfz70_0, hfz70_1, hfz70_2⟩ := b6_ BK361.out
       go_wp2
       repeat (go_quiet (fail); try go_wp2)
       go_roundg k3
       case measure => have := HK1.out; have := HJ11.out; have := HK3.out; omega
       case rel => exact ⟨(wrap64 (x5_1 + 1)), qz13, H', ⟨by have := HK1.out; have := HJ11.out; have := HK3.out; omega⟩, ⟨bk_ BK358.out⟩, ⟨bk_ BK359.out⟩, ⟨by repeat (first | (with_reducible first | exact HB.out | apply below_alloc | apply pw_below_drewN | apply below_drew1 | refine below_set ?_ GE358.out | refine below_set ?_ GE359.out | refine below_set ?_ GE361.out | refine below_set ?_ GE363.out) | exact HB.out)⟩⟩
       }
     }
   }
   {
   rw [if_neg c11] at H
   exact absurd H (by simp)
   }
   }
   {
   rw [if_neg c10] at H
   exact absurd H (by simp)
   }
   }
   {
   rw [if_neg c9] at H
   have c9b0 := decide_eq_false c9
   clear c9
   obtain rfl := Option.some.inj H
   simp only [Option.some.injEq, Prod.mk.injEq] at H
   obtain ⟨rfl⟩ := H
   have hnb71 := NB358_359.out
   have hnc71 := NB359_358.out
   have hcz72_0 := bc0_ BK358.out
   have hfz72_0 := blk_frozen BK358.out 0
   go_wp2
   repeat (go_quiet (fail); try go_wp2)
   go_ret
   exact ⟨by first | rfl | (simp [errW_none, errW_some] <;> rfl) | (simp [*, errW_none, errW_some] <;> rfl), by repeat (first | (with_reducible first | exact HB.out | apply below_alloc | apply pw_below_drewN | apply below_drew1 | refine below_set ?_ GE358.out | refine below_set ?_ GE359.out) | exact HB.out)⟩
   }
 }
 {
 rw [if_neg c3] at H
 have c3b0 := beq_eq_false_iff_ne.mpr c3
 have c3b1 := bne_iff_ne.mpr c3
 have c3b2 : (l0_0.length == l1_0.length) = false := by first | simpa using c3 | (simp at c3 ⊢; omega)
 obtain rfl := Option.some.inj H
 simp only [Option.some.injEq, Prod.mk.injEq] at H
 obtain ⟨rfl⟩ := H
 go_enter Try.func19, Try.ntmps19
 go_wp2_with (first | ((with_reducible refine gate_dst (N := 2) rfl ?_); (try (refine gate_guard (by rfl) ?_; dsimp only)); refine bx_ 2 #[.slice A0_0 l0_0.length c0_0] 26 ?_; intro gb358 hg w73 hbox hb; have n0_ := aM (below_step qz2 hb); have n1_ := aM (hbox); have n2_ := aM ((by rw [hg]; exact (below_size qz2) : w.heap.size ≤ gb358)); have n3_ := aM ((by rw [hg]; exact (below_size qz2) : w.heap.size ≤ gb358)); clear HB; have HB := n0_; have BK358 := n1_; have GW358 := n2_; have GE358 := n3_; clear n0_ n1_ n2_ n3_; clear hb hbox hg) | ((with_reducible refine gate_dst (N := 3) rfl ?_); (try (refine gate_guard (by rfl) ?_; dsimp only)); refine bx_ 3 #[.slice A1_0 l1_0.length c1_0] 26 ?_; intro gb359 hg w74 hbox hb; have n0_ := aM (blk_below (bk_ BK358.out) hb); have n1_ := aM (below_step qz20 hb); have n2_ := aM (hbox); have n3_ := aM ((by rw [hg]; exact (below_size qz20) : w.heap.size ≤ gb359)); have n4_ := aM ((by rw [hg]; exact (below_size qz20) : w.heap.size ≤ gb359)); have n5_ := aM ((by rw [hg]; exact Nat.ne_of_lt (blk_lt (bk_ BK358.out)) : gb358 ≠ gb359)); have n6_ := aM ((by rw [hg]; exact Nat.ne_of_gt (blk_lt (bk_ BK358.out)) : gb359 ≠ gb358)); clear BK358 HB; have BK358 := n0_; have HB := n1_; have BK359 := n2_; have GW359 := n3_; have GE359 := n4_; have NB358_359 := n5_; have NB359_358 := n6_; clear n0_ n1_ n2_ n3_ n4_ n5_ n6_; clear hb hbox hg; have hnb75 := NB358_359.out; have hnc75 := NB359_358.out; have hcz76_0 := bc0_ BK358.out; have hfz76_0 := blk_frozen BK358.out 0; have hcz77_0 := bc0_ BK359.out; have hfz77_0 := blk_frozen BK359.out 0))
 repeat (go_quiet (first | ((with_reducible refine gate_dst (N := 2) rfl ?_); (try (refine gate_guard (by rfl) ?_; dsimp only)); refine bx_ 2 #[.slice A0_0 l0_0.length c0_0] 26 ?_; intro gb358 hg w73 hbox hb; have n0_ := aM (below_step qz2 hb); have n1_ := aM (hbox); have n2_ := aM ((by rw [hg]; exact (below_size qz2) : w.heap.size ≤ gb358)); have n3_ := aM ((by rw [hg]; exact (below_size qz2) : w.heap.size ≤ gb358)); clear HB; have HB := n0_; have BK358 := n1_; have GW358 := n2_; have GE358 := n3_; clear n0_ n1_ n2_ n3_; clear hb hbox hg) | ((with_reducible refine gate_dst (N := 3) rfl ?_); (try (refine gate_guard (by rfl) ?_; dsimp only)); refine bx_ 3 #[.slice A1_0 l1_0.length c1_0] 26 ?_; intro gb359 hg w74 hbox hb; have n0_ := aM (blk_below (bk_ BK358.out) hb); have n1_ := aM (below_step qz20 hb); have n2_ := aM (hbox); have n3_ := aM ((by rw [hg]; exact (below_size qz20) : w.heap.size ≤ gb359)); have n4_ := aM ((by rw [hg]; exact (below_size qz20) : w.heap.size ≤ gb359)); have n5_ := aM ((by rw [hg]; exact Nat.ne_of_lt (blk_lt (bk_ BK358.out)) : gb358 ≠ gb359)); have n6_ := aM ((by rw [hg]; exact Nat.ne_of_gt (blk_lt (bk_ BK358.out)) : gb359 ≠ gb358)); clear BK358 HB; have BK358 := n0_; have HB := n1_; have BK359 := n2_; have GW359 := n3_; have GE359 := n4_; have NB358_359 := n5_; have NB359_358 := n6_; clear n0_ n1_ n2_ n3_ n4_ n5_ n6_; clear hb hbox hg; have hnb75 := NB358_359.out; have hnc75 := NB359_358.out; have hcz76_0 := bc0_ BK358.out; have hfz76_0 := blk_frozen BK358.out 0; have hcz77_0 := bc0_ BK359.out; have hfz77_0 := blk_frozen BK359.out 0)); try go_wp2_with (first | ((with_reducible refine gate_dst (N := 2) rfl ?_); (try (refine gate_guard (by rfl) ?_; dsimp only)); refine bx_ 2 #[.slice A0_0 l0_0.length c0_0] 26 ?_; intro gb358 hg w73 hbox hb; have n0_ := aM (below_step qz2 hb); have n1_ := aM (hbox); have n2_ := aM ((by rw [hg]; exact (below_size qz2) : w.heap.size ≤ gb358)); have n3_ := aM ((by rw [hg]; exact (below_size qz2) : w.heap.size ≤ gb358)); clear HB; have HB := n0_; have BK358 := n1_; have GW358 := n2_; have GE358 := n3_; clear n0_ n1_ n2_ n3_; clear hb hbox hg) | ((with_reducible refine gate_dst (N := 3) rfl ?_); (try (refine gate_guard (by rfl) ?_; dsimp only)); refine bx_ 3 #[.slice A1_0 l1_0.length c1_0] 26 ?_; intro gb359 hg w74 hbox hb; have n0_ := aM (blk_below (bk_ BK358.out) hb); have n1_ := aM (below_step qz20 hb); have n2_ := aM (hbox); have n3_ := aM ((by rw [hg]; exact (below_size qz20) : w.heap.size ≤ gb359)); have n4_ := aM ((by rw [hg]; exact (below_size qz20) : w.heap.size ≤ gb359)); have n5_ := aM ((by rw [hg]; exact Nat.ne_of_lt (blk_lt (bk_ BK358.out)) : gb358 ≠ gb359)); have n6_ := aM ((by rw [hg]; exact Nat.ne_of_gt (blk_lt (bk_ BK358.out)) : gb359 ≠ gb358)); clear BK358 HB; have BK358 := n0_; have HB := n1_; have BK359 := n2_; have GW359 := n3_; have GE359 := n4_; have NB358_359 := n5_; have NB359_358 := n6_; clear n0_ n1_ n2_ n3_ n4_ n5_ n6_; clear hb hbox hg; have hnb75 := NB358_359.out; have hnc75 := NB359_358.out; have hcz76_0 := bc0_ BK358.out; have hfz76_0 := blk_frozen BK358.out 0; have hcz77_0 := bc0_ BK359.out; have hfz77_0 := blk_frozen BK359.out 0)))
 go_ret
 exact ⟨by first | rfl | (simp [errW_none, errW_some] <;> rfl) | (simp [*, errW_none, errW_some] <;> rfl), by repeat (first | (with_reducible first | exact HB.out | apply below_alloc | apply pw_below_drewN | apply below_drew1 | refine below_set ?_ GE358.out | refine below_set ?_ GE359.out) | exact HB.out)⟩

 }
/-! ### impl_Release: function 20 -/
def impl_Release.f (k : Nat) (l0_0 : List (S79)) (a1 : Int) (a2 : Int) (a3 : Int) : Option ((List (S79)) × Int) := (impl_in.f a3 1 1000).bind fun t368 => (if t368 = true then ((impl_held.f k l0_0 a1 a2 a3 (wrap64 (-a3))).bind fun bt369 => (some (bt369.1, bt369.2))) else ((impl_copyStock.f k l0_0).bind fun t373 => (some (t373, 1))))
theorem impl_Release.mono : ∀ a0 a1 a2 a3 k, LeO (impl_Release.f k a0 a1 a2 a3) (impl_Release.f (k + 1) a0 a1 a2 a3) := by
 intro a0 a1 a2 a3 k
 unfold impl_Release.f
 repeat' first
  | (with_reducible first | exact impl_copyStock.mono _ _ | exact impl_held.mono _ _ _ _ _ _ | exact LeO.refl _ | exact LeO.none _ | refine LeO.ite ?_ ?_ | refine LeO.bind ?_ (fun _ => ?_))
  | exact impl_copyStock.mono _ _
  | exact impl_held.mono _ _ _ _ _ _
  | exact LeO.none _
  | refine LeO.ite ?_ ?_
  | refine LeO.bind ?_ (fun _ => ?_)
set_option maxHeartbeats 8000000 in
set_option maxRecDepth 100000 in
theorem impl_Release.calls (k : Nat) (A0_0 : Option Addr) (c0_0 : Nat) (l0_0 : List (S79)) (a1 : Int) (a2 : Int) (a3 : Int) (r1 : List (S79)) (r2 : Int) (w : World) (hr0_0 : Kd.C k79 w A0_0 l0_0.length l0_0) (hc0_0 : l0_0.length ≤ c0_0) (h : impl_Release.f k l0_0 a1 a2 a3 = some (r1, r2)) :
  Calls Try.prog 20 #[.agg #[.slice A0_0 l0_0.length c0_0], .int .i64 a1, .int .i64 a2, .int .i64 a3] w fun e w' => ∃ v0_ : Value, e = .returned (.tuple #[.agg #[v0_], .int .i64 r2]) ∧ Kd.S k79 79 w' w.heap.size (fun _ => True) v0_ r1 ∧ Below w.heap.size w w' := by
 have hu26 := Try.underlying26
 have HR0_0 := aM hr0_0
 have HC0_0 := aM hc0_0
 clear hr0_0 hc0_0
 have HB := aM (Below.refl w.heap.size w)
 have H : ((impl_in.f a3 1 1000).bind fun t368 => (if t368 = true then ((impl_held.f k l0_0 a1 a2 a3 (wrap64 (-a3))).bind fun bt369 => (some (bt369.1, bt369.2))) else ((impl_copyStock.f k l0_0).bind fun t373 => (some (t373, 1))))) = some (r1, r2) := h
 clear h
 replace H := Option.bind_eq_some_iff.mp H
 obtain ⟨t368, A50, H⟩ := H
 replace H : (if t368 = true then ((impl_held.f k l0_0 a1 a2 a3 (wrap64 (-a3))).bind fun bt369 => (some (bt369.1, bt369.2))) else ((impl_copyStock.f k l0_0).bind fun t373 => (some (t373, 1)))) = some (r1, r2) := H
 have A5 := aM A50
 clear A50
 by_cases c6 : t368 = true
 {
 subst c6
 rw [if_pos rfl] at H
 replace H := Option.bind_eq_some_iff.mp H
 obtain ⟨⟨t369, t372⟩, A70, H⟩ := H
 replace H : (some (t369, t372)) = some (r1, r2) := H
 have A7 := aM A70
 clear A70
 simp only [Option.some.injEq, Prod.mk.injEq] at H
 obtain ⟨rfl, rfl⟩ := H
 go_enter Try.func20, Try.ntmps20
 go_wp2_with (first | ((with_reducible refine gate_dst (N := 4) rfl ?_); refine bx_ 4 #[.slice A0_0 l0_0.length c0_0] 26 ?_; intro gb366 hg w8 hbox hb; have n0_ := aM (below_step qz2 hb); have n1_ := aM (hbox); have n2_ := aM ((by rw [hg]; exact (below_size qz2) : w.heap.size ≤ gb366)); have n3_ := aM ((by rw [hg]; exact (below_size qz2) : w.heap.size ≤ gb366)); clear HB; have HB := n0_; have BK366 := n1_; have GW366 := n2_; have GE366 := n3_; clear n0_ n1_ n2_ n3_; clear hb hbox hg) | ((with_reducible refine gate_dst (N := 8) rfl ?_); refine bx_ 8 #[.slice none 0 0] 26 ?_; intro gb367 hg w9 hbox hb; have n0_ := aM (blk_below (bk_ BK366.out) hb); have n1_ := aM (below_step qz64 hb); have n2_ := aM (hbox); have n3_ := aM ((by rw [hg]; exact (below_size qz64) : w.heap.size ≤ gb367)); have n4_ := aM ((by rw [hg]; exact (below_size qz64) : w.heap.size ≤ gb367)); have n5_ := aM ((by rw [hg]; exact Nat.ne_of_lt (blk_lt (bk_ BK366.out)) : gb366 ≠ gb367)); have n6_ := aM ((by rw [hg]; exact Nat.ne_of_gt (blk_lt (bk_ BK366.out)) : gb367 ≠ gb366)); clear BK366 HB; have BK366 := n0_; have HB := n1_; have BK367 := n2_; have GW367 := n3_; have GE367 := n4_; have NB366_367 := n5_; have NB367_366 := n6_; clear n0_ n1_ n2_ n3_ n4_ n5_ n6_; clear hb hbox hg) | ((with_reducible refine gate_callee (f := 64) rfl ?_); refine goesL_ (some 11) rfl rfl Try.func64 (by kernel_rfl) rfl #[.int .i64 a3, .int .i64 1, .int .i64 1000] rfl qz1 ?_; (with_reducible refine (impl_in.calls a3 1 1000 true _ A5.out).mono ?_); rintro e w' ⟨rfl, ⟨nd, rfl⟩⟩; refine ⟨_, rfl, ?_⟩; (try (rw [drewN_self w9]; generalize hq_ : World.drewN w9 _ = w9; have n0_ : Aside0 (w9.heap[gb366]? = some (.cells #[.slice A0_0 l0_0.length c0_0] 26 (0, 0))) := ⟨by rw [← hq_]; exact (bk_ BK366.out)⟩; have n1_ : Aside0 (w9.heap[gb367]? = some (.cells #[.slice none 0 0] 26 (0, 0))) := ⟨by rw [← hq_]; exact (bk_ BK367.out)⟩; have n2_ : Aside0 (Below w.heap.size w w9) := ⟨by rw [← hq_]; exact qz54⟩; clear BK366 BK367 HB hq_; have BK366 := n0_; have BK367 := n1_; have HB := n2_; clear n0_ n1_ n2_)); have hnb10 := NB366_367.out; have hnc10 := NB367_366.out; have hcz11_0 := bc0_ BK366.out; have hfz11_0 := blk_frozen BK366.out 0) | ((with_reducible refine gate_callee (f := 60) rfl ?_); refine goesL_ (some 21) rfl rfl Try.func60 (by kernel_rfl) rfl #[.agg #[.slice A0_0 l0_0.length c0_0], .int .i64 a1, .int .i64 a2, .int .i64 a3, .int .i64 (wrap64 (-a3))] rfl qz1 ?_; (with_reducible refine (impl_held.calls k _ _ l0_0 a1 a2 a3 (wrap64 (-a3)) t369 t372 _ ?side1 ?side2 A7.out).mono ?_); (case side1 => exact qz17); (case side2 => exact HC0_0.out); rintro e w12 ⟨v370, rfl, ho0, hb⟩; refine ⟨_, rfl, ?_⟩; have n0_ := aM (Kd.S_lower ho0 (below_size qz54)); have n1_ := aM (blk_below (bk_ BK366.out) hb); have n2_ := aM (blk_below (bk_ BK367.out) hb); have n3_ := aM (below_step qz54 hb); clear BK366 BK367 HB; have HO371 := n0_; have BK366 := n1_; have BK367 := n2_; have HB := n3_; clear n0_ n1_ n2_ n3_; (try clear hb); (try clear hb2); (try clear hk); (try clear hi); (try clear ho0); obtain ⟨Ao13, co13, eo13⟩ := Kd.S_slice HO371.out; subst eo13; have hcz14_0 := bc0_ BK367.out; have hfz14_0 := blk_frozen BK367.out 0))
 refine bodyPost_ret (results_ct rfl _ _ gb367 26 #[.slice Ao13 t369.length co13] (0, 0) _ rfl (by (with_reducible repeat (first | refine blk_drewN ?_ _ | refine blk_drew ?_ | refine blk_alloc ?_ _)); refine blk_put (cs := #[.slice none 0 0]) ?_ 0 _ rfl; exact bk_ BK367.out) Try.underlying26 rfl (by kernel_rfl)) rfl ?_
 exact ⟨_, by first | rfl | (simp [errW_none, errW_some] <;> rfl) | (simp [*, errW_none, errW_some] <;> rfl), by (with_reducible repeat (first | apply Kd.S_alloc | apply Kd.S_drewN | apply Kd.S_drew)); exact Kd.S_mono (Kd.S_far (p := ⟨gb367, 0, none⟩) (Kd.S_types HO371.out BK367.out (by decide)) (fun _ hk => hk.2) (.slice Ao13 t369.length co13)) (fun _ hk => trivial), by repeat (first | (with_reducible first | exact HB.out | apply below_alloc | apply pw_below_drewN | apply below_drew1 | refine below_set ?_ GE366.out | refine below_set ?_ GE367.out) | exact HB.out)⟩
 }
 {
 replace c6 := Bool.eq_false_iff.mpr c6
 subst c6
 rw [if_neg (show ¬ (false = true) by decide)] at H
 replace H := Option.bind_eq_some_iff.mp H
 obtain ⟨t373, A150, H⟩ := H
 replace H : (some (t373, 1)) = some (r1, r2) := H
 have A15 := aM A150
 clear A150
 simp only [Option.some.injEq, Prod.mk.injEq] at H
 obtain ⟨rfl, rfl⟩ := H
 go_enter Try.func20, Try.ntmps20
 go_wp2_with (first | ((with_reducible refine gate_dst (N := 4) rfl ?_); refine bx_ 4 #[.slice A0_0 l0_0.length c0_0] 26 ?_; intro gb366 hg w16 hbox hb; have n0_ := aM (below_step qz2 hb); have n1_ := aM (hbox); have n2_ := aM ((by rw [hg]; exact (below_size qz2) : w.heap.size ≤ gb366)); have n3_ := aM ((by rw [hg]; exact (below_size qz2) : w.heap.size ≤ gb366)); clear HB; have HB := n0_; have BK366 := n1_; have GW366 := n2_; have GE366 := n3_; clear n0_ n1_ n2_ n3_; clear hb hbox hg) | ((with_reducible refine gate_dst (N := 8) rfl ?_); refine bx_ 8 #[.slice none 0 0] 26 ?_; intro gb367 hg w17 hbox hb; have n0_ := aM (blk_below (bk_ BK366.out) hb); have n1_ := aM (below_step qz64 hb); have n2_ := aM (hbox); have n3_ := aM ((by rw [hg]; exact (below_size qz64) : w.heap.size ≤ gb367)); have n4_ := aM ((by rw [hg]; exact (below_size qz64) : w.heap.size ≤ gb367)); have n5_ := aM ((by rw [hg]; exact Nat.ne_of_lt (blk_lt (bk_ BK366.out)) : gb366 ≠ gb367)); have n6_ := aM ((by rw [hg]; exact Nat.ne_of_gt (blk_lt (bk_ BK366.out)) : gb367 ≠ gb366)); clear BK366 HB; have BK366 := n0_; have HB := n1_; have BK367 := n2_; have GW367 := n3_; have GE367 := n4_; have NB366_367 := n5_; have NB367_366 := n6_; clear n0_ n1_ n2_ n3_ n4_ n5_ n6_; clear hb hbox hg) | ((with_reducible refine gate_callee (f := 64) rfl ?_); refine goesL_ (some 11) rfl rfl Try.func64 (by kernel_rfl) rfl #[.int .i64 a3, .int .i64 1, .int .i64 1000] rfl qz1 ?_; (with_reducible refine (impl_in.calls a3 1 1000 false _ A5.out).mono ?_); rintro e w' ⟨rfl, ⟨nd, rfl⟩⟩; refine ⟨_, rfl, ?_⟩; (try (rw [drewN_self w17]; generalize hq_ : World.drewN w17 _ = w17; have n0_ : Aside0 (w17.heap[gb366]? = some (.cells #[.slice A0_0 l0_0.length c0_0] 26 (0, 0))) := ⟨by rw [← hq_]; exact (bk_ BK366.out)⟩; have n1_ : Aside0 (w17.heap[gb367]? = some (.cells #[.slice none 0 0] 26 (0, 0))) := ⟨by rw [← hq_]; exact (bk_ BK367.out)⟩; have n2_ : Aside0 (Below w.heap.size w w17) := ⟨by rw [← hq_]; exact qz54⟩; clear BK366 BK367 HB hq_; have BK366 := n0_; have BK367 := n1_; have HB := n2_; clear n0_ n1_ n2_)); have hnb18 := NB366_367.out; have hnc18 := NB367_366.out; have hcz19_0 := bc0_ BK366.out; have hfz19_0 := blk_frozen BK366.out 0) | ((with_reducible refine gate_callee (f := 65) rfl ?_); refine goesL_ (some 14) rfl rfl Try.func65 (by kernel_rfl) rfl #[.agg #[.slice A0_0 l0_0.length c0_0]] rfl qz1 ?_; (with_reducible refine (impl_copyStock.calls k _ _ l0_0 t373 _ ?side1 ?side2 A15.out).mono ?_); (case side1 => exact qz17); (case side2 => exact HC0_0.out); rintro e w20 ⟨v374, rfl, ho0, hb⟩; refine ⟨_, rfl, ?_⟩; have n0_ := aM (Kd.S_lower ho0 (below_size qz54)); have n1_ := aM (blk_below (bk_ BK366.out) hb); have n2_ := aM (blk_below (bk_ BK367.out) hb); have n3_ := aM (below_step qz54 hb); clear BK366 BK367 HB; have HO375 := n0_; have BK366 := n1_; have BK367 := n2_; have HB := n3_; clear n0_ n1_ n2_ n3_; (try clear hb); (try clear hb2); (try clear hk); (try clear hi); (try clear ho0); obtain ⟨Ao21, co21, eo21⟩ := Kd.S_slice HO375.out; subst eo21; have hcz22_0 := bc0_ BK367.out; have hfz22_0 := blk_frozen BK367.out 0))
 refine bodyPost_ret (results_ct rfl _ _ gb367 26 #[.slice Ao21 t373.length co21] (0, 0) _ rfl (by (with_reducible repeat (first | refine blk_drewN ?_ _ | refine blk_drew ?_ | refine blk_alloc ?_ _)); refine blk_put (cs := #[.slice none 0 0]) ?_ 0 _ rfl; exact bk_ BK367.out) Try.underlying26 rfl (by kernel_rfl)) rfl ?_
 exact ⟨_, by first | rfl | (simp [errW_none, errW_some] <;> rfl) | (simp [*, errW_none, errW_some] <;> rfl), by (with_reducible repeat (first | apply Kd.S_alloc | apply Kd.S_drewN | apply Kd.S_drew)); exact Kd.S_mono (Kd.S_far (p := ⟨gb367, 0, none⟩) (Kd.S_types HO375.out BK367.out (by decide)) (fun _ hk => hk.2) (.slice Ao21 t373.length co21)) (fun _ hk => trivial), by repeat (first | (with_reducible first | exact HB.out | apply below_alloc | apply pw_below_drewN | apply below_drew1 | refine below_set ?_ GE366.out | refine below_set ?_ GE367.out) | exact HB.out)⟩

 }
end Go.Proofs.Yteajnkondkfmgaa.PFnHeld
