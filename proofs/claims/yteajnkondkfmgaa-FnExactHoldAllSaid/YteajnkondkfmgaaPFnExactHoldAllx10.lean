-- Made by a program of this session out of the translation. Lean checks it.
import Derived.Test.YteajnkondkfmgaaPFnExactHoldAllx0
import Derived.Test.YteajnkondkfmgaaPFnExactHoldAllx7
import Derived.Test.YteajnkondkfmgaaPFnExactHoldAllx9
namespace Go.Proofs.Yteajnkondkfmgaa.PFnExactHoldAll
open Go.RowKit Go.Proofs.YteajnkondkfmgaaW.PrintWords Go.Proofs.YteajnkondkfmgaaW.PrintLast Go.Proofs.YteajnkondkfmgaaW.PrintMore
attribute [local go_sem] max2_int min2_int max_two min_two max_three min_three max_four min_four   -- for this text's walks alone
set_option linter.unusedVariables false
set_option linter.unusedSimpArgs false

/-! ### spec_l5Pod: function 93 -/
def spec_l5Pod.l0 : Nat → Int → Int → List (S79) → Option (Int)
 | 0, _, _, _ => none
 | k + 1, x1, x5, x232000 => if x5 < (x232000.length : Int) then (if 0 ≤ x5 then (if ((rd_T79 x232000 x5).f0) = x1 then (some x5) else (spec_l5Pod.l0 k x1 (wrap64 (x5 + 1)) x232000)) else (none)) else (some (-1))
def spec_l5Pod.f (k : Nat) (l0_0 : List (S79)) (a1 : Int) : Option (Int) := spec_l5Pod.l0 k a1 0 l0_0
theorem spec_l5Pod.mono_l : ∀ k, (∀ y0 y1 y2, LeO (spec_l5Pod.l0 k y0 y1 y2) (spec_l5Pod.l0 (k + 1) y0 y1 y2))
 | 0 => fun _ _ _ r h => by simp [spec_l5Pod.l0] at h
 | k + 1 => by
  have ih0 := spec_l5Pod.mono_l k
  {
  intro y0 y1 y2
  unfold spec_l5Pod.l0
  repeat' first
  | (with_reducible exact ih0 _ _ _)
  | (with_reducible exact LeO.refl _)
  | (with_reducible exact LeO.none _)
  | (with_reducible refine LeO.ite ?_ ?_)
  | (with_reducible refine LeO.bind ?_ (fun _ => ?_))
  | exact ih0 _ _ _
  | exact LeO.none _
  | refine LeO.ite ?_ ?_
  | refine LeO.bind ?_ (fun _ => ?_)
  }
theorem spec_l5Pod.mono : ∀ a0 a1 k, LeO (spec_l5Pod.f k a0 a1) (spec_l5Pod.f (k + 1) a0 a1) := by
 intro a0 a1 k
 have ih0 := spec_l5Pod.mono_l k
 unfold spec_l5Pod.f
 repeat' first
  | (with_reducible exact ih0 _ _ _)
  | (with_reducible exact LeO.refl _)
  | (with_reducible exact LeO.none _)
  | (with_reducible refine LeO.ite ?_ ?_)
  | (with_reducible refine LeO.bind ?_ (fun _ => ?_))
  | exact ih0 _ _ _
  | exact LeO.none _
  | refine LeO.ite ?_ ?_
  | refine LeO.bind ?_ (fun _ => ?_)
set_option maxHeartbeats 8000000 in
set_option maxRecDepth 100000 in
theorem spec_l5Pod.calls (k : Nat) (A0_0 : Option Addr) (c0_0 : Nat) (l0_0 : List (S79)) (a1 : Int) (r : Int) (w : World) (hr0_0 : Kd.C k79 w A0_0 l0_0.length l0_0) (hc0_0 : l0_0.length ≤ c0_0) (h : spec_l5Pod.f k l0_0 a1 = some r) :
  Calls Try.prog 93 #[.agg #[.slice A0_0 l0_0.length c0_0], .int .i64 a1] w fun e w' => e = .returned (.int .i64 r) ∧ Below w.heap.size w w' := by
 have hu26 := Try.underlying26
 have HR0_0 := aM hr0_0
 have HC0_0 := aM hc0_0
 clear hr0_0 hc0_0
 have HB := aM (Below.refl w.heap.size w)
 have H : (spec_l5Pod.l0 k a1 0 l0_0) = some r := h
 clear h
 have H' := aM H
 clear H
 go_enter Try.func93, Try.ntmps93
 go_wp2_with (first | ((with_reducible refine gate_dst (N := 2) rfl ?_); refine bx_ 2 #[.slice A0_0 l0_0.length c0_0] 26 ?_; intro gb231 hg w3 hbox hb; have n0_ := aM (below_step qz1 hb); have n1_ := aM (hbox); have n2_ := aM ((by rw [hg]; exact (below_size qz1) : w.heap.size ≤ gb231)); have n3_ := aM ((by rw [hg]; exact (below_size qz1) : w.heap.size ≤ gb231)); clear HB; have HB := n0_; have BK231 := n1_; have GW231 := n2_; have GE231 := n3_; clear n0_ n1_ n2_ n3_; clear hb hbox hg))
 go_loopg [5] k (fun kq v5 w' => ∃ (x5_1 : Int), v5 = .int .i64 x5_1 ∧ Aside0 (spec_l5Pod.l0 kq a1 x5_1 l0_0 = some r) ∧ Aside0 (kq ≤ k) ∧ Aside0 (w'.heap[gb231]? = some (.cells #[(.slice A0_0 l0_0.length c0_0)] 26 (0, 0))) ∧ Aside0 (Below w.heap.size w w'))
 case atStart => exact ⟨(0), qz7, H', ⟨Nat.le_refl _⟩, ⟨by (with_reducible repeat (first | refine blk_drewN ?_ _ | refine blk_drew ?_ | refine blk_alloc ?_ _)); exact BK231.out⟩, ⟨by repeat (first | (with_reducible first | exact HB.out | apply below_alloc | apply pw_below_drewN | apply below_drew1 | refine below_set ?_ GE231.out) | exact HB.out)⟩⟩
 case round =>
  clear H'
  try clear p2
  obtain ⟨x5_1, rfl, HA, HK1, BK231, HB⟩ := hrel
  cases gk with
  | zero => exact absurd HA.out (by simp [spec_l5Pod.l0])
  | succ k1 =>
   have H := HA.out
   clear HA
   simp only [spec_l5Pod.l0] at H
   by_cases c4 : x5_1 < (l0_0.length : Int)
   {
   rw [if_pos c4] at H
   have c4b0 := decide_eq_true c4
   clear c4
   by_cases c5 : 0 ≤ x5_1
   {
   rw [if_pos c5] at H
   have c5b0 := decide_eq_true c5
   clear c5
   by_cases c6 : ((rd_T79 l0_0 x5_1).f0) = a1
   {
   rw [if_pos c6] at H
   have c6b0 := beq_iff_eq.mpr c6
   have c6b1 := bne_eq_false_iff_eq.mpr c6
   clear c6
   obtain rfl := Option.some.inj H
   simp only [Option.some.injEq, Prod.mk.injEq] at H
   obtain ⟨rfl⟩ := H
   have hcz7_0 : wr.cell? ⟨gb231, 0, none⟩ = some (.slice A0_0 l0_0.length c0_0) := (blk_cell BK231.out 0).trans rfl
   have hfz7_0 := blk_frozen BK231.out 0
   have p232 : 0 ≤ (x5_1 : Int) := of_decide_eq_true qz3
   have q232 : x5_1 < (l0_0.length : Int) := of_decide_eq_true qz3
   obtain ⟨ad232, A232_2, c232_2, e232, hx232_0, hx232_1, hx232_2, hl232_2, hi232_2⟩ := at_T79 HR0_0.out x5_1 p232 q232
   cases e232
   replace hx232_0 := pw_cell_below HB.out hx232_0
   replace hx232_1 := pw_cell_below HB.out hx232_1
   replace hx232_2 := pw_cell_below HB.out hx232_2
   have HR232_2 := aM hi232_2
   have HC232_2 := aM hl232_2
   clear hi232_2 hl232_2
   replace p232 := eq_true p232
   replace q232 := eq_true q232
   go_wp2
   go_ret
   exact ⟨by first | rfl | (simp [errW_none, errW_some] <;> rfl) | (simp [*, errW_none, errW_some] <;> rfl), by repeat (first | (with_reducible first | exact HB.out | apply below_alloc | apply pw_below_drewN | apply below_drew1 | refine below_set ?_ GE231.out) | exact HB.out)⟩
   }
   {
   rw [if_neg c6] at H
   have c6b0 := beq_eq_false_iff_ne.mpr c6
   have c6b1 := bne_iff_ne.mpr c6
   have H' := aM H
   clear H
   have hcz8_0 : wr.cell? ⟨gb231, 0, none⟩ = some (.slice A0_0 l0_0.length c0_0) := (blk_cell BK231.out 0).trans rfl
   have hfz8_0 := blk_frozen BK231.out 0
   have p232 : 0 ≤ (x5_1 : Int) := of_decide_eq_true qz3
   have q232 : x5_1 < (l0_0.length : Int) := of_decide_eq_true qz3
   obtain ⟨ad232, A232_2, c232_2, e232, hx232_0, hx232_1, hx232_2, hl232_2, hi232_2⟩ := at_T79 HR0_0.out x5_1 p232 q232
   cases e232
   replace hx232_0 := pw_cell_below HB.out hx232_0
   replace hx232_1 := pw_cell_below HB.out hx232_1
   replace hx232_2 := pw_cell_below HB.out hx232_2
   have HR232_2 := aM hi232_2
   have HC232_2 := aM hl232_2
   clear hi232_2 hl232_2
   replace p232 := eq_true p232
   replace q232 := eq_true q232
   go_wp2
   go_roundg k1
   case measure => have := HK1.out; omega
   case rel => exact ⟨(wrap64 (x5_1 + 1)), qz7, H', ⟨by have := HK1.out; omega⟩, ⟨by (with_reducible repeat (first | refine blk_drewN ?_ _ | refine blk_drew ?_ | refine blk_alloc ?_ _)); exact BK231.out⟩, ⟨by repeat (first | (with_reducible first | exact HB.out | apply below_alloc | apply pw_below_drewN | apply below_drew1 | refine below_set ?_ GE231.out) | exact HB.out)⟩⟩
   }
   }
   {
   rw [if_neg c5] at H
   exact absurd H (by simp)
   }
   }
   {
   rw [if_neg c4] at H
   have c4b0 := decide_eq_false c4
   clear c4
   obtain rfl := Option.some.inj H
   simp only [Option.some.injEq, Prod.mk.injEq] at H
   obtain ⟨rfl⟩ := H
   have hcz9_0 : wr.cell? ⟨gb231, 0, none⟩ = some (.slice A0_0 l0_0.length c0_0) := (blk_cell BK231.out 0).trans rfl
   have hfz9_0 := blk_frozen BK231.out 0
   go_wp2
   go_ret
   exact ⟨by first | rfl | (simp [errW_none, errW_some] <;> rfl) | (simp [*, errW_none, errW_some] <;> rfl), by repeat (first | (with_reducible first | exact HB.out | apply below_alloc | apply pw_below_drewN | apply below_drew1 | refine below_set ?_ GE231.out) | exact HB.out)⟩

   }
/-! ### spec_l5Stack: function 94 -/
def spec_l5Stack.l0 : Nat → Int → Int → Int → Int → List (S72) → Option (Int × Int × Int)
 | 0, _, _, _, _, _ => none
 | k + 1, x1, x5, x234000, x234001, x234002 => if x5 < (x234002.length : Int) then (if 0 ≤ x5 then (if ((rd_T72 x234002 x5).f0) = x1 then (some ((rd_T72 x234002 x5).f0, (rd_T72 x234002 x5).f1, (rd_T72 x234002 x5).f2)) else (spec_l5Stack.l0 k x1 (wrap64 (x5 + 1)) x234000 x234001 x234002)) else (none)) else (some (x1, 0, 0))
def spec_l5Stack.f (k : Nat) (a0_0 : Int) (a0_1 : Int) (l0_2 : List (S72)) (a1 : Int) : Option (Int × Int × Int) := spec_l5Stack.l0 k a1 0 a0_0 a0_1 l0_2
theorem spec_l5Stack.mono_l : ∀ k, (∀ y0 y1 y2 y3 y4, LeO (spec_l5Stack.l0 k y0 y1 y2 y3 y4) (spec_l5Stack.l0 (k + 1) y0 y1 y2 y3 y4))
 | 0 => fun _ _ _ _ _ r h => by simp [spec_l5Stack.l0] at h
 | k + 1 => by
  have ih0 := spec_l5Stack.mono_l k
  {
  intro y0 y1 y2 y3 y4
  unfold spec_l5Stack.l0
  repeat' first
  | (with_reducible exact ih0 _ _ _ _ _)
  | (with_reducible exact LeO.refl _)
  | (with_reducible exact LeO.none _)
  | (with_reducible refine LeO.ite ?_ ?_)
  | (with_reducible refine LeO.bind ?_ (fun _ => ?_))
  | exact ih0 _ _ _ _ _
  | exact LeO.none _
  | refine LeO.ite ?_ ?_
  | refine LeO.bind ?_ (fun _ => ?_)
  }
theorem spec_l5Stack.mono : ∀ a0 a1 a2 a3 k, LeO (spec_l5Stack.f k a0 a1 a2 a3) (spec_l5Stack.f (k + 1) a0 a1 a2 a3) := by
 intro a0 a1 a2 a3 k
 have ih0 := spec_l5Stack.mono_l k
 unfold spec_l5Stack.f
 repeat' first
  | (with_reducible exact ih0 _ _ _ _ _)
  | (with_reducible exact LeO.refl _)
  | (with_reducible exact LeO.none _)
  | (with_reducible refine LeO.ite ?_ ?_)
  | (with_reducible refine LeO.bind ?_ (fun _ => ?_))
  | exact ih0 _ _ _ _ _
  | exact LeO.none _
  | refine LeO.ite ?_ ?_
  | refine LeO.bind ?_ (fun _ => ?_)
set_option maxHeartbeats 8000000 in
set_option maxRecDepth 100000 in
theorem spec_l5Stack.calls (k : Nat) (a0_0 : Int) (a0_1 : Int) (A0_2 : Option Addr) (c0_2 : Nat) (l0_2 : List (S72)) (a1 : Int) (r1 : Int) (r2 : Int) (r3 : Int) (w : World) (hr0_2 : Kd.C k72 w A0_2 l0_2.length l0_2) (hc0_2 : l0_2.length ≤ c0_2) (h : spec_l5Stack.f k a0_0 a0_1 l0_2 a1 = some (r1, r2, r3)) :
  Calls Try.prog 94 #[.agg #[.int .i64 a0_0, .int .i64 a0_1, .slice A0_2 l0_2.length c0_2], .int .i64 a1] w fun e w' => e = .returned (.agg #[.int .i64 r1, .int .i64 r2, .int .i64 r3]) ∧ Below w.heap.size w w' := by
 have hu79 := Try.underlying79
 have hu72 := Try.underlying72
 have HR0_2 := aM hr0_2
 have HC0_2 := aM hc0_2
 clear hr0_2 hc0_2
 have HB := aM (Below.refl w.heap.size w)
 have H : (spec_l5Stack.l0 k a1 0 a0_0 a0_1 l0_2) = some (r1, r2, r3) := h
 clear h
 have H' := aM H
 clear H
 go_enter Try.func94, Try.ntmps94
 go_wp2_with (first | ((with_reducible refine gate_dst (N := 2) rfl ?_); refine bx_ 2 #[.int .i64 a0_0, .int .i64 a0_1, .slice A0_2 l0_2.length c0_2] 79 ?_; intro gb233 hg w3 hbox hb; have n0_ := aM (below_step qz1 hb); have n1_ := aM (hbox); have n2_ := aM ((by rw [hg]; exact (below_size qz1) : w.heap.size ≤ gb233)); have n3_ := aM ((by rw [hg]; exact (below_size qz1) : w.heap.size ≤ gb233)); clear HB; have HB := n0_; have BK233 := n1_; have GW233 := n2_; have GE233 := n3_; clear n0_ n1_ n2_ n3_; clear hb hbox hg) | ((with_reducible refine gate_dst (N := 4) rfl ?_); refine bx_ 4 #[.int .i64 0, .int .i64 0, .int .i64 0] 72 ?_; intro gb234 hg w4 hbox hb; have n0_ := aM (blk_below (g := gb233) (o := .cells #[.int .i64 a0_0, .int .i64 a0_1, .slice A0_2 l0_2.length c0_2] 79 (0, 0)) qz97 hb); have n1_ := aM (below_step qz81 hb); have n2_ := aM (hbox); have n3_ := aM ((by rw [hg]; exact (below_size qz81) : w.heap.size ≤ gb234)); have n4_ := aM ((by rw [hg]; exact (below_size qz81) : w.heap.size ≤ gb234)); have n5_ := aM ((by rw [hg]; exact Nat.ne_of_lt (blk_lt (g := gb233) (o := .cells #[.int .i64 a0_0, .int .i64 a0_1, .slice A0_2 l0_2.length c0_2] 79 (0, 0)) qz97) : gb233 ≠ gb234)); have n6_ := aM ((by rw [hg]; exact Nat.ne_of_gt (blk_lt (g := gb233) (o := .cells #[.int .i64 a0_0, .int .i64 a0_1, .slice A0_2 l0_2.length c0_2] 79 (0, 0)) qz97) : gb234 ≠ gb233)); clear BK233 HB; have BK233 := n0_; have HB := n1_; have BK234 := n2_; have GW234 := n3_; have GE234 := n4_; have NB233_234 := n5_; have NB234_233 := n6_; clear n0_ n1_ n2_ n3_ n4_ n5_ n6_; clear hb hbox hg))
 go_loopg [5] k (fun kq v5 w' => ∃ (x5_1 : Int) (x235000_1 : Int) (x235001_1 : Int) (x235002_1 : Int), v5 = .int .i64 x5_1 ∧ Aside0 (spec_l5Stack.l0 kq a1 x5_1 a0_0 a0_1 l0_2 = some (r1, r2, r3)) ∧ Aside0 (kq ≤ k) ∧ Aside0 (w'.heap[gb233]? = some (.cells #[.int .i64 a0_0, .int .i64 a0_1, (.slice A0_2 l0_2.length c0_2)] 79 (0, 0))) ∧ Aside0 (w'.heap[gb234]? = some (.cells #[.int .i64 x235000_1, .int .i64 x235001_1, .int .i64 x235002_1] 72 (0, 0))) ∧ Aside0 (Below w.heap.size w w'))
 case atStart => exact ⟨(0), (0), (0), (0), qz7, H', ⟨Nat.le_refl _⟩, ⟨by (with_reducible repeat (first | refine blk_drewN ?_ _ | refine blk_drew ?_ | refine blk_alloc ?_ _)); exact BK233.out⟩, ⟨by (with_reducible repeat (first | refine blk_drewN ?_ _ | refine blk_drew ?_ | refine blk_alloc ?_ _)); exact BK234.out⟩, ⟨by repeat (first | (with_reducible first | exact HB.out | apply below_alloc | apply pw_below_drewN | apply below_drew1 | refine below_set ?_ GE233.out | refine below_set ?_ GE234.out) | exact HB.out)⟩⟩
 case round =>
  clear H'
  try clear p2
  obtain ⟨x5_1, x235000_1, x235001_1, x235002_1, rfl, HA, HK1, BK233, BK234, HB⟩ := hrel
  cases gk with
  | zero => exact absurd HA.out (by simp [spec_l5Stack.l0])
  | succ k1 =>
   have H := HA.out
   clear HA
   simp only [spec_l5Stack.l0] at H
   by_cases c5 : x5_1 < (l0_2.length : Int)
   {
   rw [if_pos c5] at H
   have c5b0 := decide_eq_true c5
   clear c5
   by_cases c6 : 0 ≤ x5_1
   {
   rw [if_pos c6] at H
   have c6b0 := decide_eq_true c6
   clear c6
   by_cases c7 : ((rd_T72 l0_2 x5_1).f0) = a1
   {
   rw [if_pos c7] at H
   have c7b0 := beq_iff_eq.mpr c7
   have c7b1 := bne_eq_false_iff_eq.mpr c7
   clear c7
   simp only [Option.some.injEq, Prod.mk.injEq] at H
   obtain ⟨rfl, rfl, rfl⟩ := H
   have hnb8 := NB233_234.out
   have hnc8 := NB234_233.out
   have hcz9_0 : wr.cell? ⟨gb233, 0, none⟩ = some (.int .i64 a0_0) := (blk_cell BK233.out 0).trans rfl
   have hcz9_1 : wr.cell? ⟨gb233, 1, none⟩ = some (.int .i64 a0_1) := (blk_cell BK233.out 1).trans rfl
   have hcz9_2 : wr.cell? ⟨gb233, 2, none⟩ = some (.slice A0_2 l0_2.length c0_2) := (blk_cell BK233.out 2).trans rfl
   have hfz9_0 := blk_frozen BK233.out 0
   have hfz9_1 := blk_frozen BK233.out 1
   have hfz9_2 := blk_frozen BK233.out 2
   have p235 : 0 ≤ (x5_1 : Int) := of_decide_eq_true qz3
   have q235 : x5_1 < (l0_2.length : Int) := of_decide_eq_true qz3
   obtain ⟨ad235, e235, hx235_0, hx235_1, hx235_2⟩ := at_T72 HR0_2.out x5_1 p235 q235
   cases e235
   replace hx235_0 := pw_cell_below HB.out hx235_0
   replace hx235_1 := pw_cell_below HB.out hx235_1
   replace hx235_2 := pw_cell_below HB.out hx235_2
   replace p235 := eq_true p235
   replace q235 := eq_true q235
   have p236 : 0 ≤ (x5_1 : Int) := of_decide_eq_true qz3
   have q236 : x5_1 < (l0_2.length : Int) := of_decide_eq_true qz3
   obtain ⟨ad236, e236, hx236_0, hx236_1, hx236_2⟩ := at_T72 HR0_2.out x5_1 p236 q236
   obtain rfl : ad235 = ad236 := (by injection e236)
   replace hx236_0 := pw_cell_below HB.out hx236_0
   replace hx236_1 := pw_cell_below HB.out hx236_1
   replace hx236_2 := pw_cell_below HB.out hx236_2
   replace p236 := eq_true p236
   replace q236 := eq_true q236
   have hcz10_0 : wr.cell? ⟨gb234, 0, none⟩ = some (.int .i64 x235000_1) := (blk_cell BK234.out 0).trans rfl
   have hcz10_1 : wr.cell? ⟨gb234, 1, none⟩ = some (.int .i64 x235001_1) := (blk_cell BK234.out 1).trans rfl
   have hcz10_2 : wr.cell? ⟨gb234, 2, none⟩ = some (.int .i64 x235002_1) := (blk_cell BK234.out 2).trans rfl
   have hfz10_0 := blk_frozen BK234.out 0
   have hfz10_1 := blk_frozen BK234.out 1
   have hfz10_2 := blk_frozen BK234.out 2
   go_wp2
   refine bodyPost_ret (results_cell_row rfl _ _ gb234 72 #[.int .i64 ((rd_T72 l0_2 x5_1).f0), .int .i64 ((rd_T72 l0_2 x5_1).f1), .int .i64 ((rd_T72 l0_2 x5_1).f2)] (0, 0) _ rfl (by (with_reducible repeat (first | refine blk_drewN ?_ _ | refine blk_drew ?_ | refine blk_alloc ?_ _)); refine blk_put (cs := #[.int .i64 ((rd_T72 l0_2 x5_1).f0), .int .i64 ((rd_T72 l0_2 x5_1).f1), .int .i64 x235002_1]) ?_ 2 _ rfl; (with_reducible repeat (first | refine blk_drewN ?_ _ | refine blk_drew ?_ | refine blk_alloc ?_ _)); refine blk_put (cs := #[.int .i64 ((rd_T72 l0_2 x5_1).f0), .int .i64 x235001_1, .int .i64 x235002_1]) ?_ 1 _ rfl; (with_reducible repeat (first | refine blk_drewN ?_ _ | refine blk_drew ?_ | refine blk_alloc ?_ _)); refine blk_put (cs := #[.int .i64 x235000_1, .int .i64 x235001_1, .int .i64 x235002_1]) ?_ 0 _ rfl; (with_reducible repeat (first | refine blk_drewN ?_ _ | refine blk_drew ?_ | refine blk_alloc ?_ _)); exact BK234.out) Try.underlying72 rfl (by kernel_rfl)) rfl ?_
   exact ⟨by first | rfl | (simp [errW_none, errW_some] <;> rfl) | (simp [*, errW_none, errW_some] <;> rfl), by repeat (first | (with_reducible first | exact HB.out | apply below_alloc | apply pw_below_drewN | apply below_drew1 | refine below_set ?_ GE233.out | refine below_set ?_ GE234.out) | exact HB.out)⟩
   }
   {
   rw [if_neg c7] at H
   have c7b0 := beq_eq_false_iff_ne.mpr c7
   have c7b1 := bne_iff_ne.mpr c7
   have H' := aM H
   clear H
   have hnb11 := NB233_234.out
   have hnc11 := NB234_233.out
   have hcz12_0 : wr.cell? ⟨gb233, 0, none⟩ = some (.int .i64 a0_0) := (blk_cell BK233.out 0).trans rfl
   have hcz12_1 : wr.cell? ⟨gb233, 1, none⟩ = some (.int .i64 a0_1) := (blk_cell BK233.out 1).trans rfl
   have hcz12_2 : wr.cell? ⟨gb233, 2, none⟩ = some (.slice A0_2 l0_2.length c0_2) := (blk_cell BK233.out 2).trans rfl
   have hfz12_0 := blk_frozen BK233.out 0
   have hfz12_1 := blk_frozen BK233.out 1
   have hfz12_2 := blk_frozen BK233.out 2
   have p235 : 0 ≤ (x5_1 : Int) := of_decide_eq_true qz3
   have q235 : x5_1 < (l0_2.length : Int) := of_decide_eq_true qz3
   obtain ⟨ad235, e235, hx235_0, hx235_1, hx235_2⟩ := at_T72 HR0_2.out x5_1 p235 q235
   cases e235
   replace hx235_0 := pw_cell_below HB.out hx235_0
   replace hx235_1 := pw_cell_below HB.out hx235_1
   replace hx235_2 := pw_cell_below HB.out hx235_2
   replace p235 := eq_true p235
   replace q235 := eq_true q235
   go_wp2
   go_roundg k1
   case measure => have := HK1.out; omega
   case rel => exact ⟨(wrap64 (x5_1 + 1)), (x235000_1), (x235001_1), (x235002_1), qz7, H', ⟨by have := HK1.out; omega⟩, ⟨by (with_reducible repeat (first | refine blk_drewN ?_ _ | refine blk_drew ?_ | refine blk_alloc ?_ _)); exact BK233.out⟩, ⟨by (with_reducible repeat (first | refine blk_drewN ?_ _ | refine blk_drew ?_ | refine blk_alloc ?_ _)); exact BK234.out⟩, ⟨by repeat (first | (with_reducible first | exact HB.out | apply below_alloc | apply pw_below_drewN | apply below_drew1 | refine below_set ?_ GE233.out | refine below_set ?_ GE234.out) | exact HB.out)⟩⟩
   }
   }
   {
   rw [if_neg c6] at H
   exact absurd H (by simp)
   }
   }
   {
   rw [if_neg c5] at H
   have c5b0 := decide_eq_false c5
   clear c5
   simp only [Option.some.injEq, Prod.mk.injEq] at H
   obtain ⟨rfl, rfl, rfl⟩ := H
   have hnb13 := NB233_234.out
   have hnc13 := NB234_233.out
   have hcz14_0 : wr.cell? ⟨gb233, 0, none⟩ = some (.int .i64 a0_0) := (blk_cell BK233.out 0).trans rfl
   have hcz14_1 : wr.cell? ⟨gb233, 1, none⟩ = some (.int .i64 a0_1) := (blk_cell BK233.out 1).trans rfl
   have hcz14_2 : wr.cell? ⟨gb233, 2, none⟩ = some (.slice A0_2 l0_2.length c0_2) := (blk_cell BK233.out 2).trans rfl
   have hfz14_0 := blk_frozen BK233.out 0
   have hfz14_1 := blk_frozen BK233.out 1
   have hfz14_2 := blk_frozen BK233.out 2
   have hcz15_0 : wr.cell? ⟨gb234, 0, none⟩ = some (.int .i64 x235000_1) := (blk_cell BK234.out 0).trans rfl
   have hcz15_1 : wr.cell? ⟨gb234, 1, none⟩ = some (.int .i64 x235001_1) := (blk_cell BK234.out 1).trans rfl
   have hcz15_2 : wr.cell? ⟨gb234, 2, none⟩ = some (.int .i64 x235002_1) := (blk_cell BK234.out 2).trans rfl
   have hfz15_0 := blk_frozen BK234.out 0
   have hfz15_1 := blk_frozen BK234.out 1
   have hfz15_2 := blk_frozen BK234.out 2
   go_wp2
   refine bodyPost_ret (results_cell_row rfl _ _ gb234 72 #[.int .i64 a1, .int .i64 0, .int .i64 0] (0, 0) _ rfl (by (with_reducible repeat (first | refine blk_drewN ?_ _ | refine blk_drew ?_ | refine blk_alloc ?_ _)); refine blk_put (cs := #[.int .i64 a1, .int .i64 0, .int .i64 x235002_1]) ?_ 2 _ rfl; (with_reducible repeat (first | refine blk_drewN ?_ _ | refine blk_drew ?_ | refine blk_alloc ?_ _)); refine blk_put (cs := #[.int .i64 a1, .int .i64 x235001_1, .int .i64 x235002_1]) ?_ 1 _ rfl; (with_reducible repeat (first | refine blk_drewN ?_ _ | refine blk_drew ?_ | refine blk_alloc ?_ _)); refine blk_put (cs := #[.int .i64 x235000_1, .int .i64 x235001_1, .int .i64 x235002_1]) ?_ 0 _ rfl; (with_reducible repeat (first | refine blk_drewN ?_ _ | refine blk_drew ?_ | refine blk_alloc ?_ _)); exact BK234.out) Try.underlying72 rfl (by kernel_rfl)) rfl ?_
   exact ⟨by first | rfl | (simp [errW_none, errW_some] <;> rfl) | (simp [*, errW_none, errW_some] <;> rfl), by repeat (first | (with_reducible first | exact HB.out | apply below_alloc | apply pw_below_drewN | apply below_drew1 | refine below_set ?_ GE233.out | refine below_set ?_ GE234.out) | exact HB.out)⟩

   }
/-! ### spec_l5Call: function 61 -/
def spec_l5Call.j0 : Nat → Int → Int → Bool → List (S79) → Option (Int × Int × Int × Int × Int)
 | 0, _, _, _, _ => none
 | k + 1, x1, x2, x24, x238000 => if x24 = true then (some (0, 0, 0, 0, 1)) else ((spec_l5Pod.f k x238000 x1).bind fun t242 => (if t242 < 0 then (some (0, 0, 0, 0, 2)) else (if 0 ≤ t242 then (if t242 < (x238000.length : Int) then ((spec_l5Stack.f k ((rd_T79 x238000 t242).f0) ((rd_T79 x238000 t242).f1) ((rd_T79 x238000 t242).f2) x2).bind fun bt244 => (some (t242, bt244.1, bt244.2.1, bt244.2.2, 0))) else (none)) else (none))))
def spec_l5Call.f (k : Nat) (l0_0 : List (S79)) (a1 : Int) (a2 : Int) (a3 : Int) : Option (Int × Int × Int × Int × Int) := (spec_StockOk.f k l0_0).bind fun t239 => (if t239 = true then ((spec_l1In.f a2 1 50).bind fun t240 => (if t240 = true then ((spec_l1In.f a3 1 1000).bind fun t241 => (spec_l5Call.j0 k a1 a2 (!t241) l0_0)) else (spec_l5Call.j0 k a1 a2 true l0_0))) else (spec_l5Call.j0 k a1 a2 true l0_0))
theorem spec_l5Call.mono_l : ∀ k, (∀ y0 y1 y2 y3, LeO (spec_l5Call.j0 k y0 y1 y2 y3) (spec_l5Call.j0 (k + 1) y0 y1 y2 y3))
 | 0 => fun _ _ _ _ r h => by simp [spec_l5Call.j0] at h
 | k + 1 => by
  have ih0 := spec_l5Call.mono_l k
  {
  intro y0 y1 y2 y3
  unfold spec_l5Call.j0
  repeat' first
  | (with_reducible exact ih0 _ _ _ _)
  | (with_reducible exact spec_StockOk.mono _ _)
  | (with_reducible exact spec_l5Pod.mono _ _ _)
  | (with_reducible exact spec_l5Stack.mono _ _ _ _ _)
  | (with_reducible exact LeO.refl _)
  | (with_reducible exact LeO.none _)
  | (with_reducible refine LeO.ite ?_ ?_)
  | (with_reducible refine LeO.bind ?_ (fun _ => ?_))
  | exact ih0 _ _ _ _
  | exact spec_StockOk.mono _ _
  | exact spec_l5Pod.mono _ _ _
  | exact spec_l5Stack.mono _ _ _ _ _
  | exact LeO.none _
  | refine LeO.ite ?_ ?_
  | refine LeO.bind ?_ (fun _ => ?_)
  }
theorem spec_l5Call.mono : ∀ a0 a1 a2 a3 k, LeO (spec_l5Call.f k a0 a1 a2 a3) (spec_l5Call.f (k + 1) a0 a1 a2 a3) := by
 intro a0 a1 a2 a3 k
 have ih0 := spec_l5Call.mono_l k
 unfold spec_l5Call.f
 repeat' first
  | (with_reducible exact ih0 _ _ _ _)
  | (with_reducible exact spec_StockOk.mono _ _)
  | (with_reducible exact spec_l5Pod.mono _ _ _)
  | (with_reducible exact spec_l5Stack.mono _ _ _ _ _)
  | (with_reducible exact LeO.refl _)
  | (with_reducible exact LeO.none _)
  | (with_reducible refine LeO.ite ?_ ?_)
  | (with_reducible refine LeO.bind ?_ (fun _ => ?_))
  | exact ih0 _ _ _ _
  | exact spec_StockOk.mono _ _
  | exact spec_l5Pod.mono _ _ _
  | exact spec_l5Stack.mono _ _ _ _ _
  | exact LeO.none _
  | refine LeO.ite ?_ ?_
  | refine LeO.bind ?_ (fun _ => ?_)
set_option maxHeartbeats 8000000 in
set_option maxRecDepth 100000 in
theorem spec_l5Call.calls (k : Nat) (A0_0 : Option Addr) (c0_0 : Nat) (l0_0 : List (S79)) (a1 : Int) (a2 : Int) (a3 : Int) (r1 : Int) (r2 : Int) (r3 : Int) (r4 : Int) (r5 : Int) (w : World) (hr0_0 : Kd.C k79 w A0_0 l0_0.length l0_0) (hc0_0 : l0_0.length ≤ c0_0) (h : spec_l5Call.f k l0_0 a1 a2 a3 = some (r1, r2, r3, r4, r5)) :
  Calls Try.prog 61 #[.agg #[.slice A0_0 l0_0.length c0_0], .int .i64 a1, .int .i64 a2, .int .i64 a3] w fun e w' => e = .returned (.tuple #[.int .i64 r1, .agg #[.int .i64 r2, .int .i64 r3, .int .i64 r4], .int .i64 r5]) ∧ Below w.heap.size w w' := by
 have hu26 := Try.underlying26
 have hu72 := Try.underlying72
 have hu79 := Try.underlying79
 have HR0_0 := aM hr0_0
 have HC0_0 := aM hc0_0
 clear hr0_0 hc0_0
 have HB := aM (Below.refl w.heap.size w)
 have H : ((spec_StockOk.f k l0_0).bind fun t239 => (if t239 = true then ((spec_l1In.f a2 1 50).bind fun t240 => (if t240 = true then ((spec_l1In.f a3 1 1000).bind fun t241 => (spec_l5Call.j0 k a1 a2 (!t241) l0_0)) else (spec_l5Call.j0 k a1 a2 true l0_0))) else (spec_l5Call.j0 k a1 a2 true l0_0))) = some (r1, r2, r3, r4, r5) := h
 clear h
 have HC5 := aM H
 clear H
 go_enter Try.func61, Try.ntmps61
 go_upto_region 1 with (first | ((with_reducible refine gate_dst (N := 4) rfl ?_); refine bx_ 4 #[.slice A0_0 l0_0.length c0_0] 26 ?_; intro gb237 hg w6 hbox hb; have n0_ := aM (below_step qz1 hb); have n1_ := aM (hbox); have n2_ := aM ((by rw [hg]; exact (below_size qz1) : w.heap.size ≤ gb237)); have n3_ := aM ((by rw [hg]; exact (below_size qz1) : w.heap.size ≤ gb237)); clear HB; have HB := n0_; have BK237 := n1_; have GW237 := n2_; have GE237 := n3_; clear n0_ n1_ n2_ n3_; clear hb hbox hg) | ((with_reducible refine gate_dst (N := 9) rfl ?_); refine bx_ 9 #[.int .i64 0, .int .i64 0, .int .i64 0] 72 ?_; intro gb238 hg w7 hbox hb; have n0_ := aM (blk_below (g := gb237) (o := .cells #[.slice A0_0 l0_0.length c0_0] 26 (0, 0)) qz32 hb); have n1_ := aM (below_step qz82 hb); have n2_ := aM (hbox); have n3_ := aM ((by rw [hg]; exact (below_size qz82) : w.heap.size ≤ gb238)); have n4_ := aM ((by rw [hg]; exact (below_size qz82) : w.heap.size ≤ gb238)); have n5_ := aM ((by rw [hg]; exact Nat.ne_of_lt (blk_lt (g := gb237) (o := .cells #[.slice A0_0 l0_0.length c0_0] 26 (0, 0)) qz32) : gb237 ≠ gb238)); have n6_ := aM ((by rw [hg]; exact Nat.ne_of_gt (blk_lt (g := gb237) (o := .cells #[.slice A0_0 l0_0.length c0_0] 26 (0, 0)) qz32) : gb238 ≠ gb237)); clear BK237 HB; have BK237 := n0_; have HB := n1_; have BK238 := n2_; have GW238 := n3_; have GE238 := n4_; have NB237_238 := n5_; have NB238_237 := n6_; clear n0_ n1_ n2_ n3_ n4_ n5_ n6_; clear hb hbox hg))
 (try simp only [Act.put, List.setIfInBounds_toArray, List.set_cons_zero, List.set_cons_succ])
 go_cut [24] (fun v24 wc => ∃ (kq : Nat) (x24_4 : Bool), v24 = .bool x24_4 ∧ Aside0 (spec_l5Call.j0 kq a1 a2 x24_4 l0_0 = some (r1, r2, r3, r4, r5)) ∧ Aside0 (kq ≤ k) ∧ Aside0 (wc.heap[gb237]? = some (.cells #[(.slice A0_0 l0_0.length c0_0)] 26 (0, 0))) ∧ Aside0 (wc.heap[gb238]? = some (.cells #[.int .i64 0, .int .i64 0, .int .i64 0] 72 (0, 0))) ∧ Aside0 (Below w.heap.size w wc))
 case first =>
  have H := HC5.out
  clear HC5
  replace H := Option.bind_eq_some_iff.mp H
  obtain ⟨t239, A80, H⟩ := H
  replace H : (if t239 = true then ((spec_l1In.f a2 1 50).bind fun t240 => (if t240 = true then ((spec_l1In.f a3 1 1000).bind fun t241 => (spec_l5Call.j0 k a1 a2 (!t241) l0_0)) else (spec_l5Call.j0 k a1 a2 true l0_0))) else (spec_l5Call.j0 k a1 a2 true l0_0)) = some (r1, r2, r3, r4, r5) := H
  have A8 := aM A80
  clear A80
  by_cases c9 : t239 = true
  {
  subst c9
  rw [if_pos rfl] at H
  replace H := Option.bind_eq_some_iff.mp H
  obtain ⟨t240, A100, H⟩ := H
  replace H : (if t240 = true then ((spec_l1In.f a3 1 1000).bind fun t241 => (spec_l5Call.j0 k a1 a2 (!t241) l0_0)) else (spec_l5Call.j0 k a1 a2 true l0_0)) = some (r1, r2, r3, r4, r5) := H
  have A10 := aM A100
  clear A100
  by_cases c11 : t240 = true
  {
  subst c11
  rw [if_pos rfl] at H
  replace H := Option.bind_eq_some_iff.mp H
  obtain ⟨t241, A120, H⟩ := H
  replace H : (spec_l5Call.j0 k a1 a2 (!t241) l0_0) = some (r1, r2, r3, r4, r5) := H
  have A12 := aM A120
  clear A120
  have H' := aM H
  clear H
  have hnb13 := NB237_238.out
  have hnc13 := NB238_237.out
  have hcz14_0 : w7.cell? ⟨gb237, 0, none⟩ = some (.slice A0_0 l0_0.length c0_0) := (blk_cell BK237.out 0).trans rfl
  have hfz14_0 := blk_frozen BK237.out 0
  go_wp2_with (first | ((with_reducible refine gate_callee (f := 37) rfl ?_); refine goesL_ (some 13) rfl rfl Try.func37 (by kernel_rfl) rfl #[.agg #[.slice A0_0 l0_0.length c0_0]] rfl qz2 ?_; (with_reducible refine (spec_StockOk.calls k _ _ l0_0 true _ ?side1 ?side2 A8.out).mono ?_); (case side1 => exact qz9); (case side2 => exact HC0_0.out); rintro e w15 ⟨rfl, hb⟩; refine ⟨_, rfl, ?_⟩; have n0_ := aM (blk_below (g := gb237) (o := .cells #[.slice A0_0 l0_0.length c0_0] 26 (0, 0)) qz32 hb); have n1_ := aM (blk_below (g := gb238) (o := .cells #[.int .i64 0, .int .i64 0, .int .i64 0] 72 (0, 0)) qz45 hb); have n2_ := aM (below_step qz30 hb); clear BK237 BK238 HB; have BK237 := n0_; have BK238 := n1_; have HB := n2_; clear n0_ n1_ n2_; (try clear hb); (try clear hb2); (try clear hk); (try clear hi)) | (go_at_call 81; (with_reducible refine (spec_l1In.calls a2 1 50 true _ A10.out).mono ?_); rintro e w' ⟨rfl, ⟨nd, rfl⟩⟩) | (go_at_call 81; (with_reducible refine (spec_l1In.calls a3 1 1000 t241 _ A12.out).mono ?_); rintro e w' ⟨rfl, ⟨nd, rfl⟩⟩))
  go_meet
  case rel => exact ⟨_, (!t241), qz7, H', ⟨by first | omega | exact Nat.le_refl _⟩, ⟨by (with_reducible repeat (first | refine blk_drewN ?_ _ | refine blk_drew ?_ | refine blk_alloc ?_ _)); exact BK237.out⟩, ⟨by (with_reducible repeat (first | refine blk_drewN ?_ _ | refine blk_drew ?_ | refine blk_alloc ?_ _)); exact BK238.out⟩, ⟨by repeat (first | (with_reducible first | exact HB.out | apply below_alloc | apply pw_below_drewN | apply below_drew1 | refine below_set ?_ GE237.out | refine below_set ?_ GE238.out) | exact HB.out)⟩⟩
  }
  {
  replace c11 := Bool.eq_false_iff.mpr c11
  subst c11
  rw [if_neg (show ¬ (false = true) by decide)] at H
  have H' := aM H
  clear H
  have hnb16 := NB237_238.out
  have hnc16 := NB238_237.out
  have hcz17_0 : w7.cell? ⟨gb237, 0, none⟩ = some (.slice A0_0 l0_0.length c0_0) := (blk_cell BK237.out 0).trans rfl
  have hfz17_0 := blk_frozen BK237.out 0
  go_wp2_with (first | ((with_reducible refine gate_callee (f := 37) rfl ?_); refine goesL_ (some 13) rfl rfl Try.func37 (by kernel_rfl) rfl #[.agg #[.slice A0_0 l0_0.length c0_0]] rfl qz2 ?_; (with_reducible refine (spec_StockOk.calls k _ _ l0_0 true _ ?side1 ?side2 A8.out).mono ?_); (case side1 => exact qz9); (case side2 => exact HC0_0.out); rintro e w18 ⟨rfl, hb⟩; refine ⟨_, rfl, ?_⟩; have n0_ := aM (blk_below (g := gb237) (o := .cells #[.slice A0_0 l0_0.length c0_0] 26 (0, 0)) qz32 hb); have n1_ := aM (blk_below (g := gb238) (o := .cells #[.int .i64 0, .int .i64 0, .int .i64 0] 72 (0, 0)) qz45 hb); have n2_ := aM (below_step qz30 hb); clear BK237 BK238 HB; have BK237 := n0_; have BK238 := n1_; have HB := n2_; clear n0_ n1_ n2_; (try clear hb); (try clear hb2); (try clear hk); (try clear hi)) | (go_at_call 81; (with_reducible refine (spec_l1In.calls a2 1 50 false _ A10.out).mono ?_); rintro e w' ⟨rfl, ⟨nd, rfl⟩⟩))
  go_meet
  case rel => exact ⟨_, (true), qz7, H', ⟨by first | omega | exact Nat.le_refl _⟩, ⟨by (with_reducible repeat (first | refine blk_drewN ?_ _ | refine blk_drew ?_ | refine blk_alloc ?_ _)); exact BK237.out⟩, ⟨by (with_reducible repeat (first | refine blk_drewN ?_ _ | refine blk_drew ?_ | refine blk_alloc ?_ _)); exact BK238.out⟩, ⟨by repeat (first | (with_reducible first | exact HB.out | apply below_alloc | apply pw_below_drewN | apply below_drew1 | refine below_set ?_ GE237.out | refine below_set ?_ GE238.out) | exact HB.out)⟩⟩
  }
  }
  {
  replace c9 := Bool.eq_false_iff.mpr c9
  subst c9
  rw [if_neg (show ¬ (false = true) by decide)] at H
  have H' := aM H
  clear H
  have hnb19 := NB237_238.out
  have hnc19 := NB238_237.out
  have hcz20_0 : w7.cell? ⟨gb237, 0, none⟩ = some (.slice A0_0 l0_0.length c0_0) := (blk_cell BK237.out 0).trans rfl
  have hfz20_0 := blk_frozen BK237.out 0
  go_wp2_with (first | ((with_reducible refine gate_callee (f := 37) rfl ?_); refine goesL_ (some 13) rfl rfl Try.func37 (by kernel_rfl) rfl #[.agg #[.slice A0_0 l0_0.length c0_0]] rfl qz2 ?_; (with_reducible refine (spec_StockOk.calls k _ _ l0_0 false _ ?side1 ?side2 A8.out).mono ?_); (case side1 => exact qz9); (case side2 => exact HC0_0.out); rintro e w21 ⟨rfl, hb⟩; refine ⟨_, rfl, ?_⟩; have n0_ := aM (blk_below (g := gb237) (o := .cells #[.slice A0_0 l0_0.length c0_0] 26 (0, 0)) qz32 hb); have n1_ := aM (blk_below (g := gb238) (o := .cells #[.int .i64 0, .int .i64 0, .int .i64 0] 72 (0, 0)) qz45 hb); have n2_ := aM (below_step qz30 hb); clear BK237 BK238 HB; have BK237 := n0_; have BK238 := n1_; have HB := n2_; clear n0_ n1_ n2_; (try clear hb); (try clear hb2); (try clear hk); (try clear hi)))
  go_meet
  case rel => exact ⟨_, (true), qz7, H', ⟨by first | omega | exact Nat.le_refl _⟩, ⟨by (with_reducible repeat (first | refine blk_drewN ?_ _ | refine blk_drew ?_ | refine blk_alloc ?_ _)); exact BK237.out⟩, ⟨by (with_reducible repeat (first | refine blk_drewN ?_ _ | refine blk_drew ?_ | refine blk_alloc ?_ _)); exact BK238.out⟩, ⟨by repeat (first | (with_reducible first | exact HB.out | apply below_alloc | apply pw_below_drewN | apply below_drew1 | refine below_set ?_ GE237.out | refine below_set ?_ GE238.out) | exact HB.out)⟩⟩
  }
 case rest =>
  clear HC5
  try clear c1
  try clear p2
  try clear c3
  try clear c6
  try clear c9
  try clear c11
  try clear c13
  try clear c16
  try clear c19
  try clear hcz14_0
  try clear hcz17_0
  try clear hcz20_0
  try clear hfz14_0
  try clear hfz17_0
  try clear hfz20_0
  obtain ⟨kq, x24_4, rfl, HA, HJ4, BK237, BK238, HB⟩ := hcut
  cases kq with
  | zero => exact absurd HA.out (by simp [spec_l5Call.j0])
  | succ kj4 =>
   have H := HA.out
   clear HA
   simp only [spec_l5Call.j0] at H
   by_cases c22 : x24_4 = true
   {
   subst c22
   rw [if_pos rfl] at H
   simp only [Option.some.injEq, Prod.mk.injEq] at H
   obtain ⟨rfl, rfl, rfl, rfl, rfl⟩ := H
   have hnb23 := NB238_237.out
   have hnc23 := NB237_238.out
   have hcz24_0 : wc.cell? ⟨gb238, 0, none⟩ = some (.int .i64 0) := (blk_cell BK238.out 0).trans rfl
   have hcz24_1 : wc.cell? ⟨gb238, 1, none⟩ = some (.int .i64 0) := (blk_cell BK238.out 1).trans rfl
   have hcz24_2 : wc.cell? ⟨gb238, 2, none⟩ = some (.int .i64 0) := (blk_cell BK238.out 2).trans rfl
   have hfz24_0 := blk_frozen BK238.out 0
   have hfz24_1 := blk_frozen BK238.out 1
   have hfz24_2 := blk_frozen BK238.out 2
   go_wp2
   refine bodyPost_ret (results_list (rs := [.tmp 8, .cell 9 72, .tmp 10]) rfl (by simp) (.tmp (.cell gb238 72 #[.int .i64 0, .int .i64 0, .int .i64 0] (0, 0) _ rfl (by (with_reducible repeat (first | refine blk_drewN ?_ _ | refine blk_drew ?_ | refine blk_alloc ?_ _)); refine blk_put (cs := #[.int .i64 0, .int .i64 0, .int .i64 0]) ?_ 2 _ rfl; (with_reducible repeat (first | refine blk_drewN ?_ _ | refine blk_drew ?_ | refine blk_alloc ?_ _)); refine blk_put (cs := #[.int .i64 0, .int .i64 0, .int .i64 0]) ?_ 1 _ rfl; (with_reducible repeat (first | refine blk_drewN ?_ _ | refine blk_drew ?_ | refine blk_alloc ?_ _)); refine blk_put (cs := #[.int .i64 0, .int .i64 0, .int .i64 0]) ?_ 0 _ rfl; (with_reducible repeat (first | refine blk_drewN ?_ _ | refine blk_drew ?_ | refine blk_alloc ?_ _)); exact BK238.out) Try.underlying72 rfl (by kernel_rfl) (.tmp .nil)))) rfl ?_
   exact ⟨by first | rfl | (simp [errW_none, errW_some] <;> rfl) | (simp [*, errW_none, errW_some] <;> rfl), by repeat (first | (with_reducible first | exact HB.out | apply below_alloc | apply pw_below_drewN | apply below_drew1 | refine below_set ?_ GE237.out | refine below_set ?_ GE238.out) | exact HB.out)⟩
   }
   {
   replace c22 := Bool.eq_false_iff.mpr c22
   subst c22
   rw [if_neg (show ¬ (false = true) by decide)] at H
   replace H := Option.bind_eq_some_iff.mp H
   obtain ⟨t242, A250, H⟩ := H
   replace H : (if t242 < 0 then (some (0, 0, 0, 0, 2)) else (if 0 ≤ t242 then (if t242 < (l0_0.length : Int) then ((spec_l5Stack.f kj4 ((rd_T79 l0_0 t242).f0) ((rd_T79 l0_0 t242).f1) ((rd_T79 l0_0 t242).f2) a2).bind fun bt244 => (some (t242, bt244.1, bt244.2.1, bt244.2.2, 0))) else (none)) else (none))) = some (r1, r2, r3, r4, r5) := H
   have A25 := aM A250
   clear A250
   by_cases c26 : t242 < 0
   {
   rw [if_pos c26] at H
   have c26b0 := decide_eq_true c26
   clear c26
   simp only [Option.some.injEq, Prod.mk.injEq] at H
   obtain ⟨rfl, rfl, rfl, rfl, rfl⟩ := H
   have hnb27 := NB237_238.out
   have hnc27 := NB238_237.out
   have hcz28_0 : wc.cell? ⟨gb237, 0, none⟩ = some (.slice A0_0 l0_0.length c0_0) := (blk_cell BK237.out 0).trans rfl
   have hfz28_0 := blk_frozen BK237.out 0
   go_wp2_with (first | ((with_reducible refine gate_callee (f := 93) rfl ?_); refine goesL_ (some 28) rfl rfl Try.func93 (by kernel_rfl) rfl #[.agg #[.slice A0_0 l0_0.length c0_0], .int .i64 a1] rfl qz2 ?_; (with_reducible refine (spec_l5Pod.calls kj4 _ _ l0_0 a1 t242 _ ?side1 ?side2 A25.out).mono ?_); (case side1 => exact qz9); (case side2 => exact HC0_0.out); rintro e w29 ⟨rfl, hb⟩; refine ⟨_, rfl, ?_⟩; have n0_ := aM (blk_below (g := gb237) (o := .cells #[.slice A0_0 l0_0.length c0_0] 26 (0, 0)) qz32 hb); have n1_ := aM (blk_below (g := gb238) (o := .cells #[.int .i64 0, .int .i64 0, .int .i64 0] 72 (0, 0)) qz45 hb); have n2_ := aM (below_step qz30 hb); clear BK237 BK238 HB; have BK237 := n0_; have BK238 := n1_; have HB := n2_; clear n0_ n1_ n2_; (try clear hb); (try clear hb2); (try clear hk); (try clear hi); have hcz30_0 : w29.cell? ⟨gb238, 0, none⟩ = some (.int .i64 0) := (blk_cell BK238.out 0).trans rfl; have hcz30_1 : w29.cell? ⟨gb238, 1, none⟩ = some (.int .i64 0) := (blk_cell BK238.out 1).trans rfl; have hcz30_2 : w29.cell? ⟨gb238, 2, none⟩ = some (.int .i64 0) := (blk_cell BK238.out 2).trans rfl; have hfz30_0 := blk_frozen BK238.out 0; have hfz30_1 := blk_frozen BK238.out 1; have hfz30_2 := blk_frozen BK238.out 2))
   refine bodyPost_ret (results_list (rs := [.tmp 8, .cell 9 72, .tmp 10]) rfl (by simp) (.tmp (.cell gb238 72 #[.int .i64 0, .int .i64 0, .int .i64 0] (0, 0) _ rfl (by (with_reducible repeat (first | refine blk_drewN ?_ _ | refine blk_drew ?_ | refine blk_alloc ?_ _)); refine blk_put (cs := #[.int .i64 0, .int .i64 0, .int .i64 0]) ?_ 2 _ rfl; (with_reducible repeat (first | refine blk_drewN ?_ _ | refine blk_drew ?_ | refine blk_alloc ?_ _)); refine blk_put (cs := #[.int .i64 0, .int .i64 0, .int .i64 0]) ?_ 1 _ rfl; (with_reducible repeat (first | refine blk_drewN ?_ _ | refine blk_drew ?_ | refine blk_alloc ?_ _)); refine blk_put (cs := #[.int .i64 0, .int .i64 0, .int .i64 0]) ?_ 0 _ rfl; (with_reducible repeat (first | refine blk_drewN ?_ _ | refine blk_drew ?_ | refine blk_alloc ?_ _)); exact BK238.out) Try.underlying72 rfl (by kernel_rfl) (.tmp .nil)))) rfl ?_
   exact ⟨by first | rfl | (simp [errW_none, errW_some] <;> rfl) | (simp [*, errW_none, errW_some] <;> rfl), by repeat (first | (with_reducible first | exact HB.out | apply below_alloc | apply pw_below_drewN | apply below_drew1 | refine below_set ?_ GE237.out | refine below_set ?_ GE238.out) | exact HB.out)⟩
   }
   {
   rw [if_neg c26] at H
   have c26b0 := decide_eq_false c26
   clear c26
   by_cases c31 : 0 ≤ t242
   {
   rw [if_pos c31] at H
   have c31b0 := decide_eq_true c31
   clear c31
   by_cases c32 : t242 < (l0_0.length : Int)
   {
   rw [if_pos c32] at H
   have c32b0 := decide_eq_true c32
   clear c32
   replace H := Option.bind_eq_some_iff.mp H
   obtain ⟨⟨t244, t245, t246⟩, A330, H⟩ := H
   replace H : (some (t242, t244, t245, t246, 0)) = some (r1, r2, r3, r4, r5) := H
   have A33 := aM A330
   clear A330
   simp only [Option.some.injEq, Prod.mk.injEq] at H
   obtain ⟨rfl, rfl, rfl, rfl, rfl⟩ := H
   have hnb34 := NB237_238.out
   have hnc34 := NB238_237.out
   have hcz35_0 : wc.cell? ⟨gb237, 0, none⟩ = some (.slice A0_0 l0_0.length c0_0) := (blk_cell BK237.out 0).trans rfl
   have hfz35_0 := blk_frozen BK237.out 0
   go_wp2_with (first | ((with_reducible refine gate_callee (f := 93) rfl ?_); refine goesL_ (some 28) rfl rfl Try.func93 (by kernel_rfl) rfl #[.agg #[.slice A0_0 l0_0.length c0_0], .int .i64 a1] rfl qz2 ?_; (with_reducible refine (spec_l5Pod.calls kj4 _ _ l0_0 a1 t242 _ ?side1 ?side2 A25.out).mono ?_); (case side1 => exact qz9); (case side2 => exact HC0_0.out); rintro e w36 ⟨rfl, hb⟩; refine ⟨_, rfl, ?_⟩; have n0_ := aM (blk_below (g := gb237) (o := .cells #[.slice A0_0 l0_0.length c0_0] 26 (0, 0)) qz32 hb); have n1_ := aM (blk_below (g := gb238) (o := .cells #[.int .i64 0, .int .i64 0, .int .i64 0] 72 (0, 0)) qz45 hb); have n2_ := aM (below_step qz30 hb); clear BK237 BK238 HB; have BK237 := n0_; have BK238 := n1_; have HB := n2_; clear n0_ n1_ n2_; (try clear hb); (try clear hb2); (try clear hk); (try clear hi); have hcz37_0 : w36.cell? ⟨gb237, 0, none⟩ = some (.slice A0_0 l0_0.length c0_0) := (blk_cell BK237.out 0).trans rfl; have hfz37_0 := blk_frozen BK237.out 0; have p243 : 0 ≤ (t242 : Int) := of_decide_eq_true qz3; have q243 : t242 < (l0_0.length : Int) := of_decide_eq_true qz3; obtain ⟨ad243, A243_2, c243_2, e243, hx243_0, hx243_1, hx243_2, hl243_2, hi243_2⟩ := at_T79 HR0_0.out t242 p243 q243; cases e243; replace hx243_0 := pw_cell_below HB.out hx243_0; replace hx243_1 := pw_cell_below HB.out hx243_1; replace hx243_2 := pw_cell_below HB.out hx243_2; have HR243_2 := aM hi243_2; have HC243_2 := aM hl243_2; clear hi243_2 hl243_2; replace p243 := eq_true p243; replace q243 := eq_true q243) | ((with_reducible refine gate_callee (f := 94) rfl ?_); refine goesL_ (some 39) rfl rfl Try.func94 (by kernel_rfl) rfl #[.agg #[.int .i64 ((rd_T79 l0_0 t242).f0), .int .i64 ((rd_T79 l0_0 t242).f1), .slice A243_2 ((rd_T79 l0_0 t242).f2).length c243_2], .int .i64 a2] rfl qz2 ?_; (with_reducible refine (spec_l5Stack.calls kj4 ((rd_T79 l0_0 t242).f0) ((rd_T79 l0_0 t242).f1) _ _ ((rd_T79 l0_0 t242).f2) a2 t244 t245 t246 _ ?side1 ?side2 A33.out).mono ?_); (case side1 => repeat (first | exact (Kd.C_below HR243_2.out HB.out) | (with_reducible refine Kd.C_alloc ?_ _) | (with_reducible refine Kd.C_drewN ?_ _) | (with_reducible refine Kd.C_drew ?_))); (case side2 => exact HC243_2.out); rintro e w38 ⟨rfl, hb⟩; refine ⟨_, rfl, ?_⟩; have n0_ := aM (blk_below (g := gb237) (o := .cells #[.slice (some ad243) l0_0.length c0_0] 26 (0, 0)) qz32 hb); have n1_ := aM (blk_below (g := gb238) (o := .cells #[.int .i64 0, .int .i64 0, .int .i64 0] 72 (0, 0)) qz45 hb); have n2_ := aM (below_step qz30 hb); clear BK237 BK238 HB; have BK237 := n0_; have BK238 := n1_; have HB := n2_; clear n0_ n1_ n2_; (try clear hb); (try clear hb2); (try clear hk); (try clear hi); have hcz39_0 : w38.cell? ⟨gb238, 0, none⟩ = some (.int .i64 0) := (blk_cell BK238.out 0).trans rfl; have hcz39_1 : w38.cell? ⟨gb238, 1, none⟩ = some (.int .i64 0) := (blk_cell BK238.out 1).trans rfl; have hcz39_2 : w38.cell? ⟨gb238, 2, none⟩ = some (.int .i64 0) := (blk_cell BK238.out 2).trans rfl; have hfz39_0 := blk_frozen BK238.out 0; have hfz39_1 := blk_frozen BK238.out 1; have hfz39_2 := blk_frozen BK238.out 2))
   refine bodyPost_ret (results_list (rs := [.tmp 8, .cell 9 72, .tmp 10]) rfl (by simp) (.tmp (.cell gb238 72 #[.int .i64 t244, .int .i64 t245, .int .i64 t246] (0, 0) _ rfl (by (with_reducible repeat (first | refine blk_drewN ?_ _ | refine blk_drew ?_ | refine blk_alloc ?_ _)); refine blk_put (cs := #[.int .i64 t244, .int .i64 t245, .int .i64 0]) ?_ 2 _ rfl; (with_reducible repeat (first | refine blk_drewN ?_ _ | refine blk_drew ?_ | refine blk_alloc ?_ _)); refine blk_put (cs := #[.int .i64 t244, .int .i64 0, .int .i64 0]) ?_ 1 _ rfl; (with_reducible repeat (first | refine blk_drewN ?_ _ | refine blk_drew ?_ | refine blk_alloc ?_ _)); refine blk_put (cs := #[.int .i64 0, .int .i64 0, .int .i64 0]) ?_ 0 _ rfl; (with_reducible repeat (first | refine blk_drewN ?_ _ | refine blk_drew ?_ | refine blk_alloc ?_ _)); exact BK238.out) Try.underlying72 rfl (by kernel_rfl) (.tmp .nil)))) rfl ?_
   exact ⟨by first | rfl | (simp [errW_none, errW_some] <;> rfl) | (simp [*, errW_none, errW_some] <;> rfl), by repeat (first | (with_reducible first | exact HB.out | apply below_alloc | apply pw_below_drewN | apply below_drew1 | refine below_set ?_ GE237.out | refine below_set ?_ GE238.out) | exact HB.out)⟩
   }
   {
   rw [if_neg c32] at H
   exact absurd H (by simp)
   }
   }
   {
   rw [if_neg c31] at H
   exact absurd H (by simp)

   }
   }
   }
end Go.Proofs.Yteajnkondkfmgaa.PFnExactHoldAll
