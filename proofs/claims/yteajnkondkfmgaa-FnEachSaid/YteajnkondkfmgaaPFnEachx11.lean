-- Made by a program of this session out of the translation. Lean checks it.
import Derived.Test.YteajnkondkfmgaaPFnEachx0
namespace Go.Proofs.Yteajnkondkfmgaa.PFnEach
open Go.RowKit Go.Proofs.YteajnkondkfmgaaW.PrintWords Go.Proofs.YteajnkondkfmgaaW.PrintLast Go.Proofs.YteajnkondkfmgaaW.PrintMore
attribute [local go_sem] max2_int min2_int max_two min_two max_three min_three max_four min_four   -- for this text's walks alone
set_option linter.unusedVariables false
set_option linter.unusedSimpArgs false

/-! ### spec_l5Stack: function 94 -/
def spec_l5Stack.l0 : Nat → Int → Int → Int → Int → List (S72) → Option (Int × Int × Int)
 | 0, _, _, _, _, _ => none
 | k + 1, x1, x5, x191000, x191001, x191002 => if x5 < (x191002.length : Int) then (if 0 ≤ x5 then (if ((rd_T72 x191002 x5).f0) = x1 then (some ((rd_T72 x191002 x5).f0, (rd_T72 x191002 x5).f1, (rd_T72 x191002 x5).f2)) else (spec_l5Stack.l0 k x1 (wrap64 (x5 + 1)) x191000 x191001 x191002)) else (none)) else (some (x1, 0, 0))
def spec_l5Stack.f (k : Nat) (a0_0 : Int) (a0_1 : Int) (l0_2 : List (S72)) (a1 : Int) : Option (Int × Int × Int) := spec_l5Stack.l0 k a1 0 a0_0 a0_1 l0_2
theorem spec_l5Stack.mono_l : ∀ k, (∀ y0 y1 y2 y3 y4, LeO (spec_l5Stack.l0 k y0 y1 y2 y3 y4) (spec_l5Stack.l0 (k + 1) y0 y1 y2 y3 y4))
 | 0 => fun _ _ _ _ _ r h => by simp [spec_l5Stack.l0] at h
 | k + 1 => by
  have ih0 := spec_l5Stack.mono_l k
  {
  intro y0 y1 y2 y3 y4
  unfold spec_l5Stack.l0
  exact qL
  }
theorem spec_l5Stack.mono : ∀ a0 a1 a2 a3 k, LeO (spec_l5Stack.f k a0 a1 a2 a3) (spec_l5Stack.f (k + 1) a0 a1 a2 a3) := by
 intro a0 a1 a2 a3 k
 have ih0 := spec_l5Stack.mono_l k
 unfold spec_l5Stack.f
 exact qL
set_option maxHeartbeats 8000000 in
set_option maxRecDepth 100000 in
theorem spec_l5Stack.calls (k : Nat) (a0_0 : Int) (a0_1 : Int) (A0_2 : Option Addr) (c0_2 : Nat) (l0_2 : List (S72)) (a1 : Int) (r1 : Int) (r2 : Int) (r3 : Int) (w : World) (hr0_2 : Kd.C k72 w A0_2 l0_2.length l0_2) (hc0_2 : l0_2.length ≤ c0_2) (h : spec_l5Stack.f k a0_0 a0_1 l0_2 a1 = some (r1, r2, r3)) :
  Calls Try.prog 94 #[.agg #[.int .i64 a0_0, .int .i64 a0_1, .slice A0_2 l0_2.length c0_2], .int .i64 a1] w fun e w' => e = .returned (.agg #[.int .i64 r1, .int .i64 r2, .int .i64 r3]) ∧ Below w.heap.size w w' := by
 have hu79 := Try.underlying79
 have hu72 := Try.underlying72
 have HR0_2 := aM hr0_2
 have HC0_2 := aM hc0_2
 clear hr0_2 hc0_2
 have HB := aM (Below.refl w.heap.size w)
 have H : (spec_l5Stack.l0 k a1 0 a0_0 a0_1 l0_2) = some (r1, r2, r3) := h
 clear h
 have H' := aM H
 clear H
 go_enter Try.func94, Try.ntmps94
 go_wp2_with (first | ((with_reducible refine gate_dst (N := 2) rfl ?_); refine bx_ 2 #[.int .i64 a0_0, .int .i64 a0_1, .slice A0_2 l0_2.length c0_2] 79 ?_; intro gb190 hg w3 hbox hb; have BK190 := aM (hbox); have GW190 := aM (bz_ w hg qz1); have GE190 := GW190; replace HB := bS_ hb; clear hb hbox hg) | ((with_reducible refine gate_dst (N := 4) rfl ?_); refine bx_ 4 #[.int .i64 0, .int .i64 0, .int .i64 0] 72 ?_; intro gb191 hg w4 hbox hb; have BK191 := aM (hbox); have GW191 := aM (bz_ w hg qz1); have GE191 := GW191; replace HB := bS_ hb; obtain ⟨NB190_191, NB191_190⟩ := nb_ hg (bk_ BK190.out); replace BK190 := bB_ BK190 hb; clear hb hbox hg))
 go_loopg [5] k (fun kq v5 w' => ∃ (x5_1 : Int) (x192000_1 : Int) (x192001_1 : Int) (x192002_1 : Int), v5 = .int .i64 x5_1 ∧ Aside0 (spec_l5Stack.l0 kq a1 x5_1 a0_0 a0_1 l0_2 = some (r1, r2, r3)) ∧ Aside0 (kq ≤ k) ∧ Aside0 (w'.heap[gb190]? = some (.cells #[.int .i64 a0_0, .int .i64 a0_1, (.slice A0_2 l0_2.length c0_2)] 79 (0, 0))) ∧ Aside0 (w'.heap[gb191]? = some (.cells #[.int .i64 x192000_1, .int .i64 x192001_1, .int .i64 x192002_1] 72 (0, 0))) ∧ Aside0 (Below w.heap.size w w'))
 case atStart => exact ⟨(0), (0), (0), (0), qz5, H', ⟨Nat.le_refl _⟩, ⟨bk_ BK190.out⟩, ⟨bk_ BK191.out⟩, ⟨qz1⟩⟩
 case round =>
  clear H'
  try clear p2
  obtain ⟨x5_1, x192000_1, x192001_1, x192002_1, rfl, HA, HK1, BK190, BK191, HB⟩ := hrel
  cases gk with
  | zero => exact absurd HA.out (by simp [spec_l5Stack.l0])
  | succ k1 =>
   have H := HA.out
   clear HA
   simp only [spec_l5Stack.l0] at H
   by_cases c5 : x5_1 < (l0_2.length : Int)
   {
   rw [if_pos c5] at H
   have c5b0 := decide_eq_true c5
   clear c5
   by_cases c6 : 0 ≤ x5_1
   {
   rw [if_pos c6] at H
   have c6b0 := decide_eq_true c6
   clear c6
   by_cases c7 : ((rd_T72 l0_2 x5_1).f0) = a1
   {
   rw [if_pos c7] at H
   have c7b0 := beq_iff_eq.mpr c7
   have c7b1 := bne_eq_false_iff_eq.mpr c7
   clear c7
   simp only [Option.some.injEq, Prod.mk.injEq] at H
   obtain ⟨rfl, rfl, rfl⟩ := H
   have hnb8 := NB190_191.out
   have hnc8 := NB191_190.out
   obtain ⟨hcz9_0, hcz9_1, hcz9_2, hfz9_0, hfz9_1, hfz9_2⟩ := b6_ BK190.out
   have p192 : 0 ≤ (x5_1 : Int) := dt_
   have q192 : x5_1 < (l0_2.length : Int) := dt_
   obtain ⟨ad192, e192, hx192_0, hx192_1, hx192_2⟩ := at_T72 HR0_2.out x5_1 p192 q192
   cases e192
   replace hx192_0 := cB_ hx192_0
   replace hx192_1 := cB_ hx192_1
   replace hx192_2 := cB_ hx192_2
   replace p192 := eq_true p192
   replace q192 := eq_true q192
   have p193 : 0 ≤ (x5_1 : Int) := dt_
   have q193 : x5_1 < (l0_2.length : Int) := dt_
   obtain ⟨ad193, e193, hx193_0, hx193_1, hx193_2⟩ := at_T72 HR0_2.out x5_1 p193 q193
   obtain rfl : ad192 = ad193 := (by injection e193)
   replace hx193_0 := cB_ hx193_0
   replace hx193_1 := cB_ hx193_1
   replace hx193_2 := cB_ hx193_2
   replace p193 := eq_true p193
   replace q193 := eq_true q193
   obtain ⟨hcz10_0, hcz10_1, hcz10_2, hfz10_0, hfz10_1, hfz10_2⟩ := b6_ BK191.out
   go_wp2
   refine bodyPost_ret (results_cell_row rfl _ _ gb191 72 #[.int .i64 ((rd_T72 l0_2 x5_1).f0), .int .i64 ((rd_T72 l0_2 x5_1).f1), .int .i64 ((rd_T72 l0_2 x5_1).f2)] (0, 0) _ rfl (by (with_reducible repeat (first | refine blk_drewN ?_ _ | refine blk_drew ?_ | refine blk_alloc ?_ _)); refine blk_put (cs := #[.int .i64 ((rd_T72 l0_2 x5_1).f0), .int .i64 ((rd_T72 l0_2 x5_1).f1), .int .i64 x192002_1]) ?_ 2 _ rfl; (with_reducible repeat (first | refine blk_drewN ?_ _ | refine blk_drew ?_ | refine blk_alloc ?_ _)); refine blk_put (cs := #[.int .i64 ((rd_T72 l0_2 x5_1).f0), .int .i64 x192001_1, .int .i64 x192002_1]) ?_ 1 _ rfl; (with_reducible repeat (first | refine blk_drewN ?_ _ | refine blk_drew ?_ | refine blk_alloc ?_ _)); refine blk_put (cs := #[.int .i64 x192000_1, .int .i64 x192001_1, .int .i64 x192002_1]) ?_ 0 _ rfl; exact bk_ BK191.out) Try.underlying72 rfl (by kernel_rfl)) rfl ?_
   exact ⟨qzw, qz1⟩
   }
   {
   rw [if_neg c7] at H
   have c7b0 := beq_eq_false_iff_ne.mpr c7
   have c7b1 := bne_iff_ne.mpr c7
   have H' := aM H
   clear H
   have hnb11 := NB190_191.out
   have hnc11 := NB191_190.out
   obtain ⟨hcz12_0, hcz12_1, hcz12_2, hfz12_0, hfz12_1, hfz12_2⟩ := b6_ BK190.out
   have p192 : 0 ≤ (x5_1 : Int) := dt_
   have q192 : x5_1 < (l0_2.length : Int) := dt_
   obtain ⟨ad192, e192, hx192_0, hx192_1, hx192_2⟩ := at_T72 HR0_2.out x5_1 p192 q192
   cases e192
   replace hx192_0 := cB_ hx192_0
   replace hx192_1 := cB_ hx192_1
   replace hx192_2 := cB_ hx192_2
   replace p192 := eq_true p192
   replace q192 := eq_true q192
   go_wp2
   go_roundg k1
   case measure => have := HK1.out; omega
   case rel => exact ⟨(wrap64 (x5_1 + 1)), (x192000_1), (x192001_1), (x192002_1), qz5, H', ⟨by have := HK1.out; omega⟩, ⟨bk_ BK190.out⟩, ⟨bk_ BK191.out⟩, ⟨qz1⟩⟩
   }
   }
   {
   exact an_ c6 H
   }
   }
   {
   rw [if_neg c5] at H
   have c5b0 := decide_eq_false c5
   clear c5
   simp only [Option.some.injEq, Prod.mk.injEq] at H
   obtain ⟨rfl, rfl, rfl⟩ := H
   have hnb13 := NB190_191.out
   have hnc13 := NB191_190.out
   obtain ⟨hcz14_0, hcz14_1, hcz14_2, hfz14_0, hfz14_1, hfz14_2⟩ := b6_ BK190.out
   obtain ⟨hcz15_0, hcz15_1, hcz15_2, hfz15_0, hfz15_1, hfz15_2⟩ := b6_ BK191.out
   go_wp2
   refine bodyPost_ret (results_cell_row rfl _ _ gb191 72 #[.int .i64 a1, .int .i64 0, .int .i64 0] (0, 0) _ rfl (by (with_reducible repeat (first | refine blk_drewN ?_ _ | refine blk_drew ?_ | refine blk_alloc ?_ _)); refine blk_put (cs := #[.int .i64 a1, .int .i64 0, .int .i64 x192002_1]) ?_ 2 _ rfl; (with_reducible repeat (first | refine blk_drewN ?_ _ | refine blk_drew ?_ | refine blk_alloc ?_ _)); refine blk_put (cs := #[.int .i64 a1, .int .i64 x192001_1, .int .i64 x192002_1]) ?_ 1 _ rfl; (with_reducible repeat (first | refine blk_drewN ?_ _ | refine blk_drew ?_ | refine blk_alloc ?_ _)); refine blk_put (cs := #[.int .i64 x192000_1, .int .i64 x192001_1, .int .i64 x192002_1]) ?_ 0 _ rfl; exact bk_ BK191.out) Try.underlying72 rfl (by kernel_rfl)) rfl ?_
   exact ⟨qzw, qz1⟩

   }
end Go.Proofs.Yteajnkondkfmgaa.PFnEach
