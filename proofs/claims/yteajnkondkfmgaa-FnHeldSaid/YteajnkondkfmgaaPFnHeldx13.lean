-- Made by a program of this session out of the translation. Lean checks it.
import Derived.Test.YteajnkondkfmgaaPFnHeldx0
import Derived.Test.YteajnkondkfmgaaPFnHeldx10
import Derived.Test.YteajnkondkfmgaaPFnHeldx12
namespace Go.Proofs.Yteajnkondkfmgaa.PFnHeld
open Go.RowKit Go.Proofs.YteajnkondkfmgaaW.PrintWords Go.Proofs.YteajnkondkfmgaaW.PrintLast Go.Proofs.YteajnkondkfmgaaW.PrintMore
attribute [local go_sem] max2_int min2_int max_two min_two max_three min_three max_four min_four   -- for this text's walks alone
set_option linter.unusedVariables false
set_option linter.unusedSimpArgs false

/-! ### spec_l5Pod: function 93 -/
def spec_l5Pod.l0 : Nat → Int → Int → List (S79) → Option (Int)
 | 0, _, _, _ => none
 | k + 1, x1, x5, x322000 => if x5 < (x322000.length : Int) then (if 0 ≤ x5 then (if ((rd_T79 x322000 x5).f0) = x1 then (some x5) else (spec_l5Pod.l0 k x1 (wrap64 (x5 + 1)) x322000)) else (none)) else (some (-1))
def spec_l5Pod.f (k : Nat) (l0_0 : List (S79)) (a1 : Int) : Option (Int) := spec_l5Pod.l0 k a1 0 l0_0
theorem spec_l5Pod.mono_l : ∀ k, (∀ y0 y1 y2, LeO (spec_l5Pod.l0 k y0 y1 y2) (spec_l5Pod.l0 (k + 1) y0 y1 y2))
 | 0 => fun _ _ _ r h => by simp [spec_l5Pod.l0] at h
 | k + 1 => by
  have ih0 := spec_l5Pod.mono_l k
  {
  intro y0 y1 y2
  unfold spec_l5Pod.l0
  repeat' first
  | (with_reducible first | exact ih0 _ _ _ | exact LeO.refl _ | exact LeO.none _ | refine LeO.ite ?_ ?_ | refine LeO.bind ?_ (fun _ => ?_))
  | exact ih0 _ _ _
  | exact LeO.none _
  | refine LeO.ite ?_ ?_
  | refine LeO.bind ?_ (fun _ => ?_)
  }
theorem spec_l5Pod.mono : ∀ a0 a1 k, LeO (spec_l5Pod.f k a0 a1) (spec_l5Pod.f (k + 1) a0 a1) := by
 intro a0 a1 k
 have ih0 := spec_l5Pod.mono_l k
 unfold spec_l5Pod.f
 repeat' first
  | (with_reducible first | exact ih0 _ _ _ | exact LeO.refl _ | exact LeO.none _ | refine LeO.ite ?_ ?_ | refine LeO.bind ?_ (fun _ => ?_))
  | exact ih0 _ _ _
  | exact LeO.none _
  | refine LeO.ite ?_ ?_
  | refine LeO.bind ?_ (fun _ => ?_)
set_option maxHeartbeats 8000000 in
set_option maxRecDepth 100000 in
theorem spec_l5Pod.calls (k : Nat) (A0_0 : Option Addr) (c0_0 : Nat) (l0_0 : List (S79)) (a1 : Int) (r : Int) (w : World) (hr0_0 : Kd.C k79 w A0_0 l0_0.length l0_0) (hc0_0 : l0_0.length ≤ c0_0) (h : spec_l5Pod.f k l0_0 a1 = some r) :
  Calls Try.prog 93 #[.agg #[.slice A0_0 l0_0.length c0_0], .int .i64 a1] w fun e w' => e = .returned (.int .i64 r) ∧ Below w.heap.size w w' := by
 have hu26 := Try.underlying26
 have HR0_0 := aM hr0_0
 have HC0_0 := aM hc0_0
 clear hr0_0 hc0_0
 have HB := aM (Below.refl w.heap.size w)
 have H : (spec_l5Pod.l0 k a1 0 l0_0) = some r := h
 clear h
 have H' := aM H
 clear H
 go_enter Try.func93, Try.ntmps93
 go_wp2_with (first | ((with_reducible refine gate_dst (N := 2) rfl ?_); refine bx_ 2 #[.slice A0_0 l0_0.length c0_0] 26 ?_; intro gb321 hg w3 hbox hb; have n0_ := aM (below_step qz2 hb); have n1_ := aM (hbox); have n2_ := aM ((by rw [hg]; exact (below_size qz2) : w.heap.size ≤ gb321)); have n3_ := aM ((by rw [hg]; exact (below_size qz2) : w.heap.size ≤ gb321)); clear HB; have HB := n0_; have BK321 := n1_; have GW321 := n2_; have GE321 := n3_; clear n0_ n1_ n2_ n3_; clear hb hbox hg))
 go_loopg [5] k (fun kq v5 w' => ∃ (x5_1 : Int), v5 = .int .i64 x5_1 ∧ Aside0 (spec_l5Pod.l0 kq a1 x5_1 l0_0 = some r) ∧ Aside0 (kq ≤ k) ∧ Aside0 (w'.heap[gb321]? = some (.cells #[(.slice A0_0 l0_0.length c0_0)] 26 (0, 0))) ∧ Aside0 (Below w.heap.size w w'))
 case atStart => exact ⟨(0), qz13, H', ⟨Nat.le_refl _⟩, ⟨bk_ BK321.out⟩, ⟨by repeat (first | (with_reducible first | exact HB.out | apply below_alloc | apply pw_below_drewN | apply below_drew1 | refine below_set ?_ GE321.out) | exact HB.out)⟩⟩
 case round =>
  clear H'
  try clear p2
  obtain ⟨x5_1, rfl, HA, HK1, BK321, HB⟩ := hrel
  cases gk with
  | zero => exact absurd HA.out (by simp [spec_l5Pod.l0])
  | succ k1 =>
   have H := HA.out
   clear HA
   simp only [spec_l5Pod.l0] at H
   by_cases c4 : x5_1 < (l0_0.length : Int)
   {
   rw [if_pos c4] at H
   have c4b0 := decide_eq_true c4
   clear c4
   by_cases c5 : 0 ≤ x5_1
   {
   rw [if_pos c5] at H
   have c5b0 := decide_eq_true c5
   clear c5
   by_cases c6 : ((rd_T79 l0_0 x5_1).f0) = a1
   {
   rw [if_pos c6] at H
   have c6b0 := beq_iff_eq.mpr c6
   have c6b1 := bne_eq_false_iff_eq.mpr c6
   clear c6
   obtain rfl := Option.some.inj H
   simp only [Option.some.injEq, Prod.mk.injEq] at H
   obtain ⟨rfl⟩ := H
   have hcz7_0 := bc0_ BK321.out
   have hfz7_0 := blk_frozen BK321.out 0
   have p322 : 0 ≤ (x5_1 : Int) := of_decide_eq_true qz4
   have q322 : x5_1 < (l0_0.length : Int) := of_decide_eq_true qz4
   obtain ⟨ad322, A322_2, c322_2, e322, hx322_0, hx322_1, hx322_2, hl322_2, hi322_2⟩ := at_T79 HR0_0.out x5_1 p322 q322
   cases e322
   replace hx322_0 := pw_cell_below HB.out hx322_0
   replace hx322_1 := pw_cell_below HB.out hx322_1
   replace hx322_2 := pw_cell_below HB.out hx322_2
   have HR322_2 := aM hi322_2
   have HC322_2 := aM hl322_2
   clear hi322_2 hl322_2
   replace p322 := eq_true p322
   replace q322 := eq_true q322
   go_wp2
   go_ret
   exact ⟨by first | rfl | (simp [errW_none, errW_some] <;> rfl) | (simp [*, errW_none, errW_some] <;> rfl), by repeat (first | (with_reducible first | exact HB.out | apply below_alloc | apply pw_below_drewN | apply below_drew1 | refine below_set ?_ GE321.out) | exact HB.out)⟩
   }
   {
   rw [if_neg c6] at H
   have c6b0 := beq_eq_false_iff_ne.mpr c6
   have c6b1 := bne_iff_ne.mpr c6
   have H' := aM H
   clear H
   have hcz8_0 := bc0_ BK321.out
   have hfz8_0 := blk_frozen BK321.out 0
   have p322 : 0 ≤ (x5_1 : Int) := of_decide_eq_true qz4
   have q322 : x5_1 < (l0_0.length : Int) := of_decide_eq_true qz4
   obtain ⟨ad322, A322_2, c322_2, e322, hx322_0, hx322_1, hx322_2, hl322_2, hi322_2⟩ := at_T79 HR0_0.out x5_1 p322 q322
   cases e322
   replace hx322_0 := pw_cell_below HB.out hx322_0
   replace hx322_1 := pw_cell_below HB.out hx322_1
   replace hx322_2 := pw_cell_below HB.out hx322_2
   have HR322_2 := aM hi322_2
   have HC322_2 := aM hl322_2
   clear hi322_2 hl322_2
   replace p322 := eq_true p322
   replace q322 := eq_true q322
   go_wp2
   go_roundg k1
   case measure => have := HK1.out; omega
   case rel => exact ⟨(wrap64 (x5_1 + 1)), qz13, H', ⟨by have := HK1.out; omega⟩, ⟨bk_ BK321.out⟩, ⟨by repeat (first | (with_reducible first | exact HB.out | apply below_alloc | apply pw_below_drewN | apply below_drew1 | refine below_set ?_ GE321.out) | exact HB.out)⟩⟩
   }
   }
   {
   rw [if_neg c5] at H
   exact absurd H (by simp)
   }
   }
   {
   rw [if_neg c4] at H
   have c4b0 := decide_eq_false c4
   clear c4
   obtain rfl := Option.some.inj H
   simp only [Option.some.injEq, Prod.mk.injEq] at H
   obtain ⟨rfl⟩ := H
   have hcz9_0 := bc0_ BK321.out
   have hfz9_0 := blk_frozen BK321.out 0
   go_wp2
   go_ret
   exact ⟨by first | rfl | (simp [errW_none, errW_some] <;> rfl) | (simp [*, errW_none, errW_some] <;> rfl), by repeat (first | (with_reducible first | exact HB.out | apply below_alloc | apply pw_below_drewN | apply below_drew1 | refine below_set ?_ GE321.out) | exact HB.out)⟩

   }
/-! ### spec_l5Stack: function 94 -/
def spec_l5Stack.l0 : Nat → Int → Int → Int → Int → List (S72) → Option (Int × Int × Int)
 | 0, _, _, _, _, _ => none
 | k + 1, x1, x5, x324000, x324001, x324002 => if x5 < (x324002.length : Int) then (if 0 ≤ x5 then (if ((rd_T72 x324002 x5).f0) = x1 then (some ((rd_T72 x324002 x5).f0, (rd_T72 x324002 x5).f1, (rd_T72 x324002 x5).f2)) else (spec_l5Stack.l0 k x1 (wrap64 (x5 + 1)) x324000 x324001 x324002)) else (none)) else (some (x1, 0, 0))
def spec_l5Stack.f (k : Nat) (a0_0 : Int) (a0_1 : Int) (l0_2 : List (S72)) (a1 : Int) : Option (Int × Int × Int) := spec_l5Stack.l0 k a1 0 a0_0 a0_1 l0_2
theorem spec_l5Stack.mono_l : ∀ k, (∀ y0 y1 y2 y3 y4, LeO (spec_l5Stack.l0 k y0 y1 y2 y3 y4) (spec_l5Stack.l0 (k + 1) y0 y1 y2 y3 y4))
 | 0 => fun _ _ _ _ _ r h => by simp [spec_l5Stack.l0] at h
 | k + 1 => by
  have ih0 := spec_l5Stack.mono_l k
  {
  intro y0 y1 y2 y3 y4
  unfold spec_l5Stack.l0
  repeat' first
  | (with_reducible first | exact ih0 _ _ _ _ _ | exact LeO.refl _ | exact LeO.none _ | refine LeO.ite ?_ ?_ | refine LeO.bind ?_ (fun _ => ?_))
  | exact ih0 _ _ _ _ _
  | exact LeO.none _
  | refine LeO.ite ?_ ?_
  | refine LeO.bind ?_ (fun _ => ?_)
  }
theorem spec_l5Stack.mono : ∀ a0 a1 a2 a3 k, LeO (spec_l5Stack.f k a0 a1 a2 a3) (spec_l5Stack.f (k + 1) a0 a1 a2 a3) := by
 intro a0 a1 a2 a3 k
 have ih0 := spec_l5Stack.mono_l k
 unfold spec_l5Stack.f
 repeat' first
  | (with_reducible first | exact ih0 _ _ _ _ _ | exact LeO.refl _ | exact LeO.none _ | refine LeO.ite ?_ ?_ | refine LeO.bind ?_ (fun _ => ?_))
  | exact ih0 _ _ _ _ _
  | exact LeO.none _
  | refine LeO.ite ?_ ?_
  | refine LeO.bind ?_ (fun _ => ?_)
set_option maxHeartbeats 8000000 in
set_option maxRecDepth 100000 in
theorem spec_l5Stack.calls (k : Nat) (a0_0 : Int) (a0_1 : Int) (A0_2 : Option Addr) (c0_2 : Nat) (l0_2 : List (S72)) (a1 : Int) (r1 : Int) (r2 : Int) (r3 : Int) (w : World) (hr0_2 : Kd.C k72 w A0_2 l0_2.length l0_2) (hc0_2 : l0_2.length ≤ c0_2) (h : spec_l5Stack.f k a0_0 a0_1 l0_2 a1 = some (r1, r2, r3)) :
  Calls Try.prog 94 #[.agg #[.int .i64 a0_0, .int .i64 a0_1, .slice A0_2 l0_2.length c0_2], .int .i64 a1] w fun e w' => e = .returned (.agg #[.int .i64 r1, .int .i64 r2, .int .i64 r3]) ∧ Below w.heap.size w w' := by
 have hu79 := Try.underlying79
 have hu72 := Try.underlying72
 have HR0_2 := aM hr0_2
 have HC0_2 := aM hc0_2
 clear hr0_2 hc0_2
 have HB := aM (Below.refl w.heap.size w)
 have H : (spec_l5Stack.l0 k a1 0 a0_0 a0_1 l0_2) = some (r1, r2, r3) := h
 clear h
 have H' := aM H
 clear H
 go_enter Try.func94, Try.ntmps94
 go_wp2_with (first | ((with_reducible refine gate_dst (N := 2) rfl ?_); refine bx_ 2 #[.int .i64 a0_0, .int .i64 a0_1, .slice A0_2 l0_2.length c0_2] 79 ?_; intro gb323 hg w3 hbox hb; have n0_ := aM (below_step qz2 hb); have n1_ := aM (hbox); have n2_ := aM ((by rw [hg]; exact (below_size qz2) : w.heap.size ≤ gb323)); have n3_ := aM ((by rw [hg]; exact (below_size qz2) : w.heap.size ≤ gb323)); clear HB; have HB := n0_; have BK323 := n1_; have GW323 := n2_; have GE323 := n3_; clear n0_ n1_ n2_ n3_; clear hb hbox hg) | ((with_reducible refine gate_dst (N := 4) rfl ?_); refine bx_ 4 #[.int .i64 0, .int .i64 0, .int .i64 0] 72 ?_; intro gb324 hg w4 hbox hb; have n0_ := aM (blk_below (bk_ BK323.out) hb); have n1_ := aM (below_step qz91 hb); have n2_ := aM (hbox); have n3_ := aM ((by rw [hg]; exact (below_size qz91) : w.heap.size ≤ gb324)); have n4_ := aM ((by rw [hg]; exact (below_size qz91) : w.heap.size ≤ gb324)); have n5_ := aM ((by rw [hg]; exact Nat.ne_of_lt (blk_lt (bk_ BK323.out)) : gb323 ≠ gb324)); have n6_ := aM ((by rw [hg]; exact Nat.ne_of_gt (blk_lt (bk_ BK323.out)) : gb324 ≠ gb323)); clear BK323 HB; have BK323 := n0_; have HB := n1_; have BK324 := n2_; have GW324 := n3_; have GE324 := n4_; have NB323_324 := n5_; have NB324_323 := n6_; clear n0_ n1_ n2_ n3_ n4_ n5_ n6_; clear hb hbox hg))
 go_loopg [5] k (fun kq v5 w' => ∃ (x5_1 : Int) (x325000_1 : Int) (x325001_1 : Int) (x325002_1 : Int), v5 = .int .i64 x5_1 ∧ Aside0 (spec_l5Stack.l0 kq a1 x5_1 a0_0 a0_1 l0_2 = some (r1, r2, r3)) ∧ Aside0 (kq ≤ k) ∧ Aside0 (w'.heap[gb323]? = some (.cells #[.int .i64 a0_0, .int .i64 a0_1, (.slice A0_2 l0_2.length c0_2)] 79 (0, 0))) ∧ Aside0 (w'.heap[gb324]? = some (.cells #[.int .i64 x325000_1, .int .i64 x325001_1, .int .i64 x325002_1] 72 (0, 0))) ∧ Aside0 (Below w.heap.size w w'))
 case atStart => exact ⟨(0), (0), (0), (0), qz13, H', ⟨Nat.le_refl _⟩, ⟨bk_ BK323.out⟩, ⟨bk_ BK324.out⟩, ⟨by repeat (first | (with_reducible first | exact HB.out | apply below_alloc | apply pw_below_drewN | apply below_drew1 | refine below_set ?_ GE323.out | refine below_set ?_ GE324.out) | exact HB.out)⟩⟩
 case round =>
  clear H'
  try clear p2
  obtain ⟨x5_1, x325000_1, x325001_1, x325002_1, rfl, HA, HK1, BK323, BK324, HB⟩ := hrel
  cases gk with
  | zero => exact absurd HA.out (by simp [spec_l5Stack.l0])
  | succ k1 =>
   have H := HA.out
   clear HA
   simp only [spec_l5Stack.l0] at H
   by_cases c5 : x5_1 < (l0_2.length : Int)
   {
   rw [if_pos c5] at H
   have c5b0 := decide_eq_true c5
   clear c5
   by_cases c6 : 0 ≤ x5_1
   {
   rw [if_pos c6] at H
   have c6b0 := decide_eq_true c6
   clear c6
   by_cases c7 : ((rd_T72 l0_2 x5_1).f0) = a1
   {
   rw [if_pos c7] at H
   have c7b0 := beq_iff_eq.mpr c7
   have c7b1 := bne_eq_false_iff_eq.mpr c7
   clear c7
   simp only [Option.some.injEq, Prod.mk.injEq] at H
   obtain ⟨rfl, rfl, rfl⟩ := H
   have hnb8 := NB323_324.out
   have hnc8 := NB324_323.out
   obtain ⟨hcz9_0, hcz9_1, hcz9_2, hfz9_0, hfz9_1, hfz9_2⟩ := b6_ BK323.out
   have p325 : 0 ≤ (x5_1 : Int) := of_decide_eq_true qz4
   have q325 : x5_1 < (l0_2.length : Int) := of_decide_eq_true qz4
   obtain ⟨ad325, e325, hx325_0, hx325_1, hx325_2⟩ := at_T72 HR0_2.out x5_1 p325 q325
   cases e325
   replace hx325_0 := pw_cell_below HB.out hx325_0
   replace hx325_1 := pw_cell_below HB.out hx325_1
   replace hx325_2 := pw_cell_below HB.out hx325_2
   replace p325 := eq_true p325
   replace q325 := eq_true q325
   have p326 : 0 ≤ (x5_1 : Int) := of_decide_eq_true qz4
   have q326 : x5_1 < (l0_2.length : Int) := of_decide_eq_true qz4
   obtain ⟨ad326, e326, hx326_0, hx326_1, hx326_2⟩ := at_T72 HR0_2.out x5_1 p326 q326
   obtain rfl : ad325 = ad326 := (by injection e326)
   replace hx326_0 := pw_cell_below HB.out hx326_0
   replace hx326_1 := pw_cell_below HB.out hx326_1
   replace hx326_2 := pw_cell_below HB.out hx326_2
   replace p326 := eq_true p326
   replace q326 := eq_true q326
   obtain ⟨hcz10_0, hcz10_1, hcz10_2, hfz10_0, hfz10_1, hfz10_2⟩ := b6_ BK324.out
   go_wp2
   refine bodyPost_ret (results_cell_row rfl _ _ gb324 72 #[.int .i64 ((rd_T72 l0_2 x5_1).f0), .int .i64 ((rd_T72 l0_2 x5_1).f1), .int .i64 ((rd_T72 l0_2 x5_1).f2)] (0, 0) _ rfl (by (with_reducible repeat (first | refine blk_drewN ?_ _ | refine blk_drew ?_ | refine blk_alloc ?_ _)); refine blk_put (cs := #[.int .i64 ((rd_T72 l0_2 x5_1).f0), .int .i64 ((rd_T72 l0_2 x5_1).f1), .int .i64 x325002_1]) ?_ 2 _ rfl; (with_reducible repeat (first | refine blk_drewN ?_ _ | refine blk_drew ?_ | refine blk_alloc ?_ _)); refine blk_put (cs := #[.int .i64 ((rd_T72 l0_2 x5_1).f0), .int .i64 x325001_1, .int .i64 x325002_1]) ?_ 1 _ rfl; (with_reducible repeat (first | refine blk_drewN ?_ _ | refine blk_drew ?_ | refine blk_alloc ?_ _)); refine blk_put (cs := #[.int .i64 x325000_1, .int .i64 x325001_1, .int .i64 x325002_1]) ?_ 0 _ rfl; exact bk_ BK324.out) Try.underlying72 rfl (by kernel_rfl)) rfl ?_
   exact ⟨by first | rfl | (simp [errW_none, errW_some] <;> rfl) | (simp [*, errW_none, errW_some] <;> rfl), by repeat (first | (with_reducible first | exact HB.out | apply below_alloc | apply pw_below_drewN | apply below_drew1 | refine below_set ?_ GE323.out | refine below_set ?_ GE324.out) | exact HB.out)⟩
   }
   {
   rw [if_neg c7] at H
   have c7b0 := beq_eq_false_iff_ne.mpr c7
   have c7b1 := bne_iff_ne.mpr c7
   have H' := aM H
   clear H
   have hnb11 := NB323_324.out
   have hnc11 := NB324_323.out
   obtain ⟨hcz12_0, hcz12_1, hcz12_2, hfz12_0, hfz12_1, hfz12_2⟩ := b6_ BK323.out
   have p325 : 0 ≤ (x5_1 : Int) := of_decide_eq_true qz4
   have q325 : x5_1 < (l0_2.length : Int) := of_decide_eq_true qz4
   obtain ⟨ad325, e325, hx325_0, hx325_1, hx325_2⟩ := at_T72 HR0_2.out x5_1 p325 q325
   cases e325
   replace hx325_0 := pw_cell_below HB.out hx325_0
   replace hx325_1 := pw_cell_below HB.out hx325_1
   replace hx325_2 := pw_cell_below HB.out hx325_2
   replace p325 := eq_true p325
   replace q325 := eq_true q325
   go_wp2
   go_roundg k1
   case measure => have := HK1.out; omega
   case rel => exact ⟨(wrap64 (x5_1 + 1)), (x325000_1), (x325001_1), (x325002_1), qz13, H', ⟨by have := HK1.out; omega⟩, ⟨bk_ BK323.out⟩, ⟨bk_ BK324.out⟩, ⟨by repeat (first | (with_reducible first | exact HB.out | apply below_alloc | apply pw_below_drewN | apply below_drew1 | refine below_set ?_ GE323.out | refine below_set ?_ GE324.out) | exact HB.out)⟩⟩
   }
   }
   {
   rw [if_neg c6] at H
   exact absurd H (by simp)
   }
   }
   {
   rw [if_neg c5] at H
   have c5b0 := decide_eq_false c5
   clear c5
   simp only [Option.some.injEq, Prod.mk.injEq] at H
   obtain ⟨rfl, rfl, rfl⟩ := H
   have hnb13 := NB323_324.out
   have hnc13 := NB324_323.out
   obtain ⟨hcz14_0, hcz14_1, hcz14_2, hfz14_0, hfz14_1, hfz14_2⟩ := b6_ BK323.out
   obtain ⟨hcz15_0, hcz15_1, hcz15_2, hfz15_0, hfz15_1, hfz15_2⟩ := b6_ BK324.out
   go_wp2
   refine bodyPost_ret (results_cell_row rfl _ _ gb324 72 #[.int .i64 a1, .int .i64 0, .int .i64 0] (0, 0) _ rfl (by (with_reducible repeat (first | refine blk_drewN ?_ _ | refine blk_drew ?_ | refine blk_alloc ?_ _)); refine blk_put (cs := #[.int .i64 a1, .int .i64 0, .int .i64 x325002_1]) ?_ 2 _ rfl; (with_reducible repeat (first | refine blk_drewN ?_ _ | refine blk_drew ?_ | refine blk_alloc ?_ _)); refine blk_put (cs := #[.int .i64 a1, .int .i64 x325001_1, .int .i64 x325002_1]) ?_ 1 _ rfl; (with_reducible repeat (first | refine blk_drewN ?_ _ | refine blk_drew ?_ | refine blk_alloc ?_ _)); refine blk_put (cs := #[.int .i64 x325000_1, .int .i64 x325001_1, .int .i64 x325002_1]) ?_ 0 _ rfl; exact bk_ BK324.out) Try.underlying72 rfl (by kernel_rfl)) rfl ?_
   exact ⟨by first | rfl | (simp [errW_none, errW_some] <;> rfl) | (simp [*, errW_none, errW_some] <;> rfl), by repeat (first | (with_reducible first | exact HB.out | apply below_alloc | apply pw_below_drewN | apply below_drew1 | refine below_set ?_ GE323.out | refine below_set ?_ GE324.out) | exact HB.out)⟩

   }
/-! ### spec_l5Call: function 61 -/
def spec_l5Call.j0 : Nat → Int → Int → Bool → List (S79) → Option (Int × Int × Int × Int × Int)
 | 0, _, _, _, _ => none
 | k + 1, x1, x2, x24, x328000 => if x24 = true then (some (0, 0, 0, 0, 1)) else ((spec_l5Pod.f k x328000 x1).bind fun t332 => (if t332 < 0 then (some (0, 0, 0, 0, 2)) else (if 0 ≤ t332 then (if t332 < (x328000.length : Int) then ((spec_l5Stack.f k ((rd_T79 x328000 t332).f0) ((rd_T79 x328000 t332).f1) ((rd_T79 x328000 t332).f2) x2).bind fun bt334 => (some (t332, bt334.1, bt334.2.1, bt334.2.2, 0))) else (none)) else (none))))
def spec_l5Call.f (k : Nat) (l0_0 : List (S79)) (a1 : Int) (a2 : Int) (a3 : Int) : Option (Int × Int × Int × Int × Int) := (spec_StockOk.f k l0_0).bind fun t329 => (if t329 = true then ((spec_l1In.f a2 1 50).bind fun t330 => (if t330 = true then ((spec_l1In.f a3 1 1000).bind fun t331 => (spec_l5Call.j0 k a1 a2 (!t331) l0_0)) else (spec_l5Call.j0 k a1 a2 true l0_0))) else (spec_l5Call.j0 k a1 a2 true l0_0))
theorem spec_l5Call.mono_l : ∀ k, (∀ y0 y1 y2 y3, LeO (spec_l5Call.j0 k y0 y1 y2 y3) (spec_l5Call.j0 (k + 1) y0 y1 y2 y3))
 | 0 => fun _ _ _ _ r h => by simp [spec_l5Call.j0] at h
 | k + 1 => by
  have ih0 := spec_l5Call.mono_l k
  {
  intro y0 y1 y2 y3
  unfold spec_l5Call.j0
  repeat' first
  | (with_reducible first | exact ih0 _ _ _ _ | exact spec_StockOk.mono _ _ | exact spec_l5Pod.mono _ _ _ | exact spec_l5Stack.mono _ _ _ _ _ | exact LeO.refl _ | exact LeO.none _ | refine LeO.ite ?_ ?_ | refine LeO.bind ?_ (fun _ => ?_))
  | exact ih0 _ _ _ _
  | exact spec_StockOk.mono _ _
  | exact spec_l5Pod.mono _ _ _
  | exact spec_l5Stack.mono _ _ _ _ _
  | exact LeO.none _
  | refine LeO.ite ?_ ?_
  | refine LeO.bind ?_ (fun _ => ?_)
  }
theorem spec_l5Call.mono : ∀ a0 a1 a2 a3 k, LeO (spec_l5Call.f k a0 a1 a2 a3) (spec_l5Call.f (k + 1) a0 a1 a2 a3) := by
 intro a0 a1 a2 a3 k
 have ih0 := spec_l5Call.mono_l k
 unfold spec_l5Call.f
 repeat' first
  | (with_reducible first | exact ih0 _ _ _ _ | exact spec_StockOk.mono _ _ | exact spec_l5Pod.mono _ _ _ | exact spec_l5Stack.mono _ _ _ _ _ | exact LeO.refl _ | exact LeO.none _ | refine LeO.ite ?_ ?_ | refine LeO.bind ?_ (fun _ => ?_))
  | exact ih0 _ _ _ _
  | exact spec_StockOk.mono _ _
  | exact spec_l5Pod.mono _ _ _
  | exact spec_l5Stack.mono _ _ _ _ _
  | exact LeO.none _
  | refine LeO.ite ?_ ?_
  | refine LeO.bind ?_ (fun _ => ?_)
set_option maxHeartbeats 8000000 in
set_option maxRecDepth 100000 in
theorem spec_l5Call.calls (k : Nat) (A0_0 : Option Addr) (c0_0 : Nat) (l0_0 : List (S79)) (a1 : Int) (a2 : Int) (a3 : Int) (r1 : Int) (r2 : Int) (r3 : Int) (r4 : Int) (r5 : Int) (w : World) (hr0_0 : Kd.C k79 w A0_0 l0_0.length l0_0) (hc0_0 : l0_0.length ≤ c0_0) (h : spec_l5Call.f k l0_0 a1 a2 a3 = some (r1, r2, r3, r4, r5)) :
  Calls Try.prog 61 #[.agg #[.slice A0_0 l0_0.length c0_0], .int .i64 a1, .int .i64 a2, .int .i64 a3] w fun e w' => e = .returned (.tuple #[.int .i64 r1, .agg #[.int .i64 r2, .int .i64 r3, .int .i64 r4], .int .i64 r5]) ∧ Below w.heap.size w w' := by
 have hu26 := Try.underlying26
 have hu72 := Try.underlying72
 have hu79 := Try.underlying79
 have HR0_0 := aM hr0_0
 have HC0_0 := aM hc0_0
 clear hr0_0 hc0_0
 have HB := aM (Below.refl w.heap.size w)
 have H : ((spec_StockOk.f k l0_0).bind fun t329 => (if t329 = true then ((spec_l1In.f a2 1 50).bind fun t330 => (if t330 = true then ((spec_l1In.f a3 1 1000).bind fun t331 => (spec_l5Call.j0 k a1 a2 (!t331) l0_0)) else (spec_l5Call.j0 k a1 a2 true l0_0))) else (spec_l5Call.j0 k a1 a2 true l0_0))) = some (r1, r2, r3, r4, r5) := h
 clear h
 have HC5 := aM H
 clear H
 go_enter Try.func61, Try.ntmps61
 go_upto_region 1 with (first | ((with_reducible refine gate_dst (N := 4) rfl ?_); refine bx_ 4 #[.slice A0_0 l0_0.length c0_0] 26 ?_; intro gb327 hg w6 hbox hb; have n0_ := aM (below_step qz2 hb); have n1_ := aM (hbox); have n2_ := aM ((by rw [hg]; exact (below_size qz2) : w.heap.size ≤ gb327)); have n3_ := aM ((by rw [hg]; exact (below_size qz2) : w.heap.size ≤ gb327)); clear HB; have HB := n0_; have BK327 := n1_; have GW327 := n2_; have GE327 := n3_; clear n0_ n1_ n2_ n3_; clear hb hbox hg) | ((with_reducible refine gate_dst (N := 9) rfl ?_); refine bx_ 9 #[.int .i64 0, .int .i64 0, .int .i64 0] 72 ?_; intro gb328 hg w7 hbox hb; have n0_ := aM (blk_below (bk_ BK327.out) hb); have n1_ := aM (below_step qz92 hb); have n2_ := aM (hbox); have n3_ := aM ((by rw [hg]; exact (below_size qz92) : w.heap.size ≤ gb328)); have n4_ := aM ((by rw [hg]; exact (below_size qz92) : w.heap.size ≤ gb328)); have n5_ := aM ((by rw [hg]; exact Nat.ne_of_lt (blk_lt (bk_ BK327.out)) : gb327 ≠ gb328)); have n6_ := aM ((by rw [hg]; exact Nat.ne_of_gt (blk_lt (bk_ BK327.out)) : gb328 ≠ gb327)); clear BK327 HB; have BK327 := n0_; have HB := n1_; have BK328 := n2_; have GW328 := n3_; have GE328 := n4_; have NB327_328 := n5_; have NB328_327 := n6_; clear n0_ n1_ n2_ n3_ n4_ n5_ n6_; clear hb hbox hg))
 (try simp only [Act.put, List.setIfInBounds_toArray, List.set_cons_zero, List.set_cons_succ])
 go_cut [24] (fun v24 wc => ∃ (kq : Nat) (x24_4 : Bool), v24 = .bool x24_4 ∧ Aside0 (spec_l5Call.j0 kq a1 a2 x24_4 l0_0 = some (r1, r2, r3, r4, r5)) ∧ Aside0 (kq ≤ k) ∧ Aside0 (wc.heap[gb327]? = some (.cells #[(.slice A0_0 l0_0.length c0_0)] 26 (0, 0))) ∧ Aside0 (wc.heap[gb328]? = some (.cells #[.int .i64 0, .int .i64 0, .int .i64 0] 72 (0, 0))) ∧ Aside0 (Below w.heap.size w wc))
 case first =>
  have H := HC5.out
  clear HC5
  replace H := Option.bind_eq_some_iff.mp H
  obtain ⟨t329, A80, H⟩ := H
  replace H : (if t329 = true then ((spec_l1In.f a2 1 50).bind fun t330 => (if t330 = true then ((spec_l1In.f a3 1 1000).bind fun t331 => (spec_l5Call.j0 k a1 a2 (!t331) l0_0)) else (spec_l5Call.j0 k a1 a2 true l0_0))) else (spec_l5Call.j0 k a1 a2 true l0_0)) = some (r1, r2, r3, r4, r5) := H
  have A8 := aM A80
  clear A80
  by_cases c9 : t329 = true
  {
  subst c9
  rw [if_pos rfl] at H
  replace H := Option.bind_eq_some_iff.mp H
  obtain ⟨t330, A100, H⟩ := H
  replace H : (if t330 = true then ((spec_l1In.f a3 1 1000).bind fun t331 => (spec_l5Call.j0 k a1 a2 (!t331) l0_0)) else (spec_l5Call.j0 k a1 a2 true l0_0)) = some (r1, r2, r3, r4, r5) := H
  have A10 := aM A100
  clear A100
  by_cases c11 : t330 = true
  {
  subst c11
  rw [if_pos rfl] at H
  replace H := Option.bind_eq_some_iff.mp H
  obtain ⟨t331, A120, H⟩ := H
  replace H : (spec_l5Call.j0 k a1 a2 (!t331) l0_0) = some (r1, r2, r3, r4, r5) := H
  have A12 := aM A120
  clear A120
  have H' := aM H
  clear H
  have hnb13 := NB327_328.out
  have hnc13 := NB328_327.out
  have hcz14_0 := bc0_ BK327.out
  have hfz14_0 := blk_frozen BK327.out 0
  go_wp2_with (first | ((with_reducible refine gate_callee (f := 37) rfl ?_); refine goesL_ (some 13) rfl rfl Try.func37 (by kernel_rfl) rfl #[.agg #[.slice A0_0 l0_0.length c0_0]] rfl qz1 ?_; (with_reducible refine (spec_StockOk.calls k _ _ l0_0 true _ ?side1 ?side2 A8.out).mono ?_); (case side1 => exact qz17); (case side2 => exact HC0_0.out); rintro e w15 ⟨rfl, hb⟩; refine ⟨_, rfl, ?_⟩; have n0_ := aM (blk_below (bk_ BK327.out) hb); have n1_ := aM (blk_below (bk_ BK328.out) hb); have n2_ := aM (below_step qz52 hb); clear BK327 BK328 HB; have BK327 := n0_; have BK328 := n1_; have HB := n2_; clear n0_ n1_ n2_; (try clear hb); (try clear hb2); (try clear hk); (try clear hi)) | (go_at_call 81; (with_reducible refine (spec_l1In.calls a2 1 50 true _ A10.out).mono ?_); rintro e w' ⟨rfl, ⟨nd, rfl⟩⟩) | (go_at_call 81; (with_reducible refine (spec_l1In.calls a3 1 1000 t331 _ A12.out).mono ?_); rintro e w' ⟨rfl, ⟨nd, rfl⟩⟩))
  go_meet
  case rel => exact ⟨_, (!t331), qz13, H', ⟨by first | omega | exact Nat.le_refl _⟩, ⟨bk_ BK327.out⟩, ⟨bk_ BK328.out⟩, ⟨by repeat (first | (with_reducible first | exact HB.out | apply below_alloc | apply pw_below_drewN | apply below_drew1 | refine below_set ?_ GE327.out | refine below_set ?_ GE328.out) | exact HB.out)⟩⟩
  }
  {
  replace c11 := Bool.eq_false_iff.mpr c11
  subst c11
  rw [if_neg (show ¬ (false = true) by decide)] at H
  have H' := aM H
  clear H
  have hnb16 := NB327_328.out
  have hnc16 := NB328_327.out
  have hcz17_0 := bc0_ BK327.out
  have hfz17_0 := blk_frozen BK327.out 0
  go_wp2_with (first | ((with_reducible refine gate_callee (f := 37) rfl ?_); refine goesL_ (some 13) rfl rfl Try.func37 (by kernel_rfl) rfl #[.agg #[.slice A0_0 l0_0.length c0_0]] rfl qz1 ?_; (with_reducible refine (spec_StockOk.calls k _ _ l0_0 true _ ?side1 ?side2 A8.out).mono ?_); (case side1 => exact qz17); (case side2 => exact HC0_0.out); rintro e w18 ⟨rfl, hb⟩; refine ⟨_, rfl, ?_⟩; have n0_ := aM (blk_below (bk_ BK327.out) hb); have n1_ := aM (blk_below (bk_ BK328.out) hb); have n2_ := aM (below_step qz52 hb); clear BK327 BK328 HB; have BK327 := n0_; have BK328 := n1_; have HB := n2_; clear n0_ n1_ n2_; (try clear hb); (try clear hb2); (try clear hk); (try clear hi)) | (go_at_call 81; (with_reducible refine (spec_l1In.calls a2 1 50 false _ A10.out).mono ?_); rintro e w' ⟨rfl, ⟨nd, rfl⟩⟩))
  go_meet
  case rel => exact ⟨_, (true), qz13, H', ⟨by first | omega | exact Nat.le_refl _⟩, ⟨bk_ BK327.out⟩, ⟨bk_ BK328.out⟩, ⟨by repeat (first | (with_reducible first | exact HB.out | apply below_alloc | apply pw_below_drewN | apply below_drew1 | refine below_set ?_ GE327.out | refine below_set ?_ GE328.out) | exact HB.out)⟩⟩
  }
  }
  {
  replace c9 := Bool.eq_false_iff.mpr c9
  subst c9
  rw [if_neg (show ¬ (false = true) by decide)] at H
  have H' := aM H
  clear H
  have hnb19 := NB327_328.out
  have hnc19 := NB328_327.out
  have hcz20_0 := bc0_ BK327.out
  have hfz20_0 := blk_frozen BK327.out 0
  go_wp2_with (first | ((with_reducible refine gate_callee (f := 37) rfl ?_); refine goesL_ (some 13) rfl rfl Try.func37 (by kernel_rfl) rfl #[.agg #[.slice A0_0 l0_0.length c0_0]] rfl qz1 ?_; (with_reducible refine (spec_StockOk.calls k _ _ l0_0 false _ ?side1 ?side2 A8.out).mono ?_); (case side1 => exact qz17); (case side2 => exact HC0_0.out); rintro e w21 ⟨rfl, hb⟩; refine ⟨_, rfl, ?_⟩; have n0_ := aM (blk_below (bk_ BK327.out) hb); have n1_ := aM (blk_below (bk_ BK328.out) hb); have n2_ := aM (below_step qz52 hb); clear BK327 BK328 HB; have BK327 := n0_; have BK328 := n1_; have HB := n2_; clear n0_ n1_ n2_; (try clear hb); (try clear hb2); (try clear hk); (try clear hi)))
  go_meet
  case rel => exact ⟨_, (true), qz13, H', ⟨by first | omega | exact Nat.le_refl _⟩, ⟨bk_ BK327.out⟩, ⟨bk_ BK328.out⟩, ⟨by repeat (first | (with_reducible first | exact HB.out | apply below_alloc | apply pw_below_drewN | apply below_drew1 | refine below_set ?_ GE327.out | refine below_set ?_ GE328.out) | exact HB.out)⟩⟩
  }
 case rest =>
  clear HC5
  try clear c1
  try clear p2
  try clear c3
  try clear c6
  try clear c9
  try clear c11
  try clear c13
  try clear c16
  try clear c19
  try clear hcz14_0
  try clear hcz17_0
  try clear hcz20_0
  try clear hfz14_0
  try clear hfz17_0
  try clear hfz20_0
  obtain ⟨kq, x24_4, rfl, HA, HJ4, BK327, BK328, HB⟩ := hcut
  cases kq with
  | zero => exact absurd HA.out (by simp [spec_l5Call.j0])
  | succ kj4 =>
   have H := HA.out
   clear HA
   simp only [spec_l5Call.j0] at H
   by_cases c22 : x24_4 = true
   {
   subst c22
   rw [if_pos rfl] at H
   simp only [Option.some.injEq, Prod.mk.injEq] at H
   obtain ⟨rfl, rfl, rfl, rfl, rfl⟩ := H
   have hnb23 := NB328_327.out
   have hnc23 := NB327_328.out
   obtain ⟨hcz24_0, hcz24_1, hcz24_2, hfz24_0, hfz24_1, hfz24_2⟩ := b6_ BK328.out
   go_wp2
   refine bodyPost_ret (results_list (rs := [.tmp 8, .cell 9 72, .tmp 10]) rfl (by simp) (.tmp (.cell gb328 72 #[.int .i64 0, .int .i64 0, .int .i64 0] (0, 0) _ rfl (by (with_reducible repeat (first | refine blk_drewN ?_ _ | refine blk_drew ?_ | refine blk_alloc ?_ _)); refine blk_put (cs := #[.int .i64 0, .int .i64 0, .int .i64 0]) ?_ 2 _ rfl; (with_reducible repeat (first | refine blk_drewN ?_ _ | refine blk_drew ?_ | refine blk_alloc ?_ _)); refine blk_put (cs := #[.int .i64 0, .int .i64 0, .int .i64 0]) ?_ 1 _ rfl; (with_reducible repeat (first | refine blk_drewN ?_ _ | refine blk_drew ?_ | refine blk_alloc ?_ _)); refine blk_put (cs := #[.int .i64 0, .int .i64 0, .int .i64 0]) ?_ 0 _ rfl; exact bk_ BK328.out) Try.underlying72 rfl (by kernel_rfl) (.tmp .nil)))) rfl ?_
   exact ⟨by first | rfl | (simp [errW_none, errW_some] <;> rfl) | (simp [*, errW_none, errW_some] <;> rfl), by repeat (first | (with_reducible first | exact HB.out | apply below_alloc | apply pw_below_drewN | apply below_drew1 | refine below_set ?_ GE327.out | refine below_set ?_ GE328.out) | exact HB.out)⟩
   }
   {
   replace c22 := Bool.eq_false_iff.mpr c22
   subst c22
   rw [if_neg (show ¬ (false = true) by decide)] at H
   replace H := Option.bind_eq_some_iff.mp H
   obtain ⟨t332, A250, H⟩ := H
   replace H : (if t332 < 0 then (some (0, 0, 0, 0, 2)) else (if 0 ≤ t332 then (if t332 < (l0_0.length : Int) then ((spec_l5Stack.f kj4 ((rd_T79 l0_0 t332).f0) ((rd_T79 l0_0 t332).f1) ((rd_T79 l0_0 t332).f2) a2).bind fun bt334 => (some (t332, bt334.1, bt334.2.1, bt334.2.2, 0))) else (none)) else (none))) = some (r1, r2, r3, r4, r5) := H
   have A25 := aM A250
   clear A250
   by_cases c26 : t332 < 0
   {
   rw [if_pos c26] at H
   have c26b0 := decide_eq_true c26
   clear c26
   simp only [Option.some.injEq, Prod.mk.injEq] at H
   obtain ⟨rfl, rfl, rfl, rfl, rfl⟩ := H
   have hnb27 := NB327_328.out
   have hnc27 := NB328_327.out
   have hcz28_0 := bc0_ BK327.out
   have hfz28_0 := blk_frozen BK327.out 0
   go_wp2_with (first | ((with_reducible refine gate_callee (f := 93) rfl ?_); refine goesL_ (some 28) rfl rfl Try.func93 (by kernel_rfl) rfl #[.agg #[.slice A0_0 l0_0.length c0_0], .int .i64 a1] rfl qz1 ?_; (with_reducible refine (spec_l5Pod.calls kj4 _ _ l0_0 a1 t332 _ ?side1 ?side2 A25.out).mono ?_); (case side1 => exact qz17); (case side2 => exact HC0_0.out); rintro e w29 ⟨rfl, hb⟩; refine ⟨_, rfl, ?_⟩; have n0_ := aM (blk_below (bk_ BK327.out) hb); have n1_ := aM (blk_below (bk_ BK328.out) hb); have n2_ := aM (below_step qz52 hb); clear BK327 BK328 HB; have BK327 := n0_; have BK328 := n1_; have HB := n2_; clear n0_ n1_ n2_; (try clear hb); (try clear hb2); (try clear hk); (try clear hi); obtain ⟨hcz30_0, hcz30_1, hcz30_2, hfz30_0, hfz30_1, hfz30_2⟩ := b6_ BK328.out))
   refine bodyPost_ret (results_list (rs := [.tmp 8, .cell 9 72, .tmp 10]) rfl (by simp) (.tmp (.cell gb328 72 #[.int .i64 0, .int .i64 0, .int .i64 0] (0, 0) _ rfl (by (with_reducible repeat (first | refine blk_drewN ?_ _ | refine blk_drew ?_ | refine blk_alloc ?_ _)); refine blk_put (cs := #[.int .i64 0, .int .i64 0, .int .i64 0]) ?_ 2 _ rfl; (with_reducible repeat (first | refine blk_drewN ?_ _ | refine blk_drew ?_ | refine blk_alloc ?_ _)); refine blk_put (cs := #[.int .i64 0, .int .i64 0, .int .i64 0]) ?_ 1 _ rfl; (with_reducible repeat (first | refine blk_drewN ?_ _ | refine blk_drew ?_ | refine blk_alloc ?_ _)); refine blk_put (cs := #[.int .i64 0, .int .i64 0, .int .i64 0]) ?_ 0 _ rfl; exact bk_ BK328.out) Try.underlying72 rfl (by kernel_rfl) (.tmp .nil)))) rfl ?_
   exact ⟨by first | rfl | (simp [errW_none, errW_some] <;> rfl) | (simp [*, errW_none, errW_some] <;> rfl), by repeat (first | (with_reducible first | exact HB.out | apply below_alloc | apply pw_below_drewN | apply below_drew1 | refine below_set ?_ GE327.out | refine below_set ?_ GE328.out) | exact HB.out)⟩
   }
   {
   rw [if_neg c26] at H
   have c26b0 := decide_eq_false c26
   clear c26
   by_cases c31 : 0 ≤ t332
   {
   rw [if_pos c31] at H
   have c31b0 := decide_eq_true c31
   clear c31
   by_cases c32 : t332 < (l0_0.length : Int)
   {
   rw [if_pos c32] at H
   have c32b0 := decide_eq_true c32
   clear c32
   replace H := Option.bind_eq_some_iff.mp H
   obtain ⟨⟨t334, t335, t336⟩, A330, H⟩ := H
   replace H : (some (t332, t334, t335, t336, 0)) = some (r1, r2, r3, r4, r5) := H
   have A33 := aM A330
   clear A330
   simp only [Option.some.injEq, Prod.mk.injEq] at H
   obtain ⟨rfl, rfl, rfl, rfl, rfl⟩ := H
   have hnb34 := NB327_328.out
   have hnc34 := NB328_327.out
   have hcz35_0 := bc0_ BK327.out
   have hfz35_0 := blk_frozen BK327.out 0
   go_wp2_with (first | ((with_reducible refine gate_callee (f := 93) rfl ?_); refine goesL_ (some 28) rfl rfl Try.func93 (by kernel_rfl) rfl #[.agg #[.slice A0_0 l0_0.length c0_0], .int .i64 a1] rfl qz1 ?_; (with_reducible refine (spec_l5Pod.calls kj4 _ _ l0_0 a1 t332 _ ?side1 ?side2 A25.out).mono ?_); (case side1 => exact qz17); (case side2 => exact HC0_0.out); rintro e w36 ⟨rfl, hb⟩; refine ⟨_, rfl, ?_⟩; have n0_ := aM (blk_below (bk_ BK327.out) hb); have n1_ := aM (blk_below (bk_ BK328.out) hb); have n2_ := aM (below_step qz52 hb); clear BK327 BK328 HB; have BK327 := n0_; have BK328 := n1_; have HB := n2_; clear n0_ n1_ n2_; (try clear hb); (try clear hb2); (try clear hk); (try clear hi); have hcz37_0 := bc0_ BK327.out; have hfz37_0 := blk_frozen BK327.out 0; have p333 : 0 ≤ (t332 : Int) := of_decide_eq_true qz4; have q333 : t332 < (l0_0.length : Int) := of_decide_eq_true qz4; obtain ⟨ad333, A333_2, c333_2, e333, hx333_0, hx333_1, hx333_2, hl333_2, hi333_2⟩ := at_T79 HR0_0.out t332 p333 q333; cases e333; replace hx333_0 := pw_cell_below HB.out hx333_0; replace hx333_1 := pw_cell_below HB.out hx333_1; replace hx333_2 := pw_cell_below HB.out hx333_2; have HR333_2 := aM hi333_2; have HC333_2 := aM hl333_2; clear hi333_2 hl333_2; replace p333 := eq_true p333; replace q333 := eq_true q333) | ((with_reducible refine gate_callee (f := 94) rfl ?_); refine goesL_ (some 39) rfl rfl Try.func94 (by kernel_rfl) rfl #[.agg #[.int .i64 ((rd_T79 l0_0 t332).f0), .int .i64 ((rd_T79 l0_0 t332).f1), .slice A333_2 ((rd_T79 l0_0 t332).f2).length c333_2], .int .i64 a2] rfl qz1 ?_; (with_reducible refine (spec_l5Stack.calls kj4 ((rd_T79 l0_0 t332).f0) ((rd_T79 l0_0 t332).f1) _ _ ((rd_T79 l0_0 t332).f2) a2 t334 t335 t336 _ ?side1 ?side2 A33.out).mono ?_); (case side1 => repeat (first | exact (Kd.C_below HR333_2.out HB.out) | (with_reducible refine Kd.C_alloc ?_ _) | (with_reducible refine Kd.C_drewN ?_ _) | (with_reducible refine Kd.C_drew ?_))); (case side2 => exact HC333_2.out); rintro e w38 ⟨rfl, hb⟩; refine ⟨_, rfl, ?_⟩; have n0_ := aM (blk_below (bk_ BK327.out) hb); have n1_ := aM (blk_below (bk_ BK328.out) hb); have n2_ := aM (below_step qz52 hb); clear BK327 BK328 HB; have BK327 := n0_; have BK328 := n1_; have HB := n2_; clear n0_ n1_ n2_; (try clear hb); (try clear hb2); (try clear hk); (try clear hi); obtain ⟨hcz39_0, hcz39_1, hcz39_2, hfz39_0, hfz39_1, hfz39_2⟩ := b6_ BK328.out))
   refine bodyPost_ret (results_list (rs := [.tmp 8, .cell 9 72, .tmp 10]) rfl (by simp) (.tmp (.cell gb328 72 #[.int .i64 t334, .int .i64 t335, .int .i64 t336] (0, 0) _ rfl (by (with_reducible repeat (first | refine blk_drewN ?_ _ | refine blk_drew ?_ | refine blk_alloc ?_ _)); refine blk_put (cs := #[.int .i64 t334, .int .i64 t335, .int .i64 0]) ?_ 2 _ rfl; (with_reducible repeat (first | refine blk_drewN ?_ _ | refine blk_drew ?_ | refine blk_alloc ?_ _)); refine blk_put (cs := #[.int .i64 t334, .int .i64 0, .int .i64 0]) ?_ 1 _ rfl; (with_reducible repeat (first | refine blk_drewN ?_ _ | refine blk_drew ?_ | refine blk_alloc ?_ _)); refine blk_put (cs := #[.int .i64 0, .int .i64 0, .int .i64 0]) ?_ 0 _ rfl; exact bk_ BK328.out) Try.underlying72 rfl (by kernel_rfl) (.tmp .nil)))) rfl ?_
   exact ⟨by first | rfl | (simp [errW_none, errW_some] <;> rfl) | (simp [*, errW_none, errW_some] <;> rfl), by repeat (first | (with_reducible first | exact HB.out | apply below_alloc | apply pw_below_drewN | apply below_drew1 | refine below_set ?_ GE327.out | refine below_set ?_ GE328.out) | exact HB.out)⟩
   }
   {
   rw [if_neg c32] at H
   exact absurd H (by simp)
   }
   }
   {
   rw [if_neg c31] at H
   exact absurd H (by simp)

   }
   }
   }
end Go.Proofs.Yteajnkondkfmgaa.PFnHeld
