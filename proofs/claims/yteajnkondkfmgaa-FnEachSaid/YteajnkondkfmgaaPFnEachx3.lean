-- Made by a program of this session out of the translation. Lean checks it.
import Derived.Test.YteajnkondkfmgaaPFnEachx0
namespace Go.Proofs.Yteajnkondkfmgaa.PFnEach
open Go.RowKit Go.Proofs.YteajnkondkfmgaaW.PrintWords Go.Proofs.YteajnkondkfmgaaW.PrintLast Go.Proofs.YteajnkondkfmgaaW.PrintMore
attribute [local go_sem] max2_int min2_int max_two min_two max_three min_three max_four min_four   -- for this text's walks alone
set_option linter.unusedVariables false
set_option linter.unusedSimpArgs false

/-! ### impl_stackAt: function 67 -/
def impl_stackAt.l0 : Nat → Int → Int → Int → Int → List (S72) → Option (Int × Bool)
 | 0, _, _, _, _, _ => none
 | k + 1, x1, x6, x121000, x121001, x121002 => if x6 < (x121002.length : Int) then (if 0 ≤ x6 then (if ((rd_T72 x121002 x6).f0) < x1 then (impl_stackAt.l0 k x1 (wrap64 (x6 + 1)) x121000 x121001 x121002) else (some (x6, (((rd_T72 x121002 x6).f0) == x1)))) else (none)) else (some (x6, false))
def impl_stackAt.f (k : Nat) (a0_0 : Int) (a0_1 : Int) (l0_2 : List (S72)) (a1 : Int) : Option (Int × Bool) := impl_stackAt.l0 k a1 0 a0_0 a0_1 l0_2
theorem impl_stackAt.mono_l : ∀ k, (∀ y0 y1 y2 y3 y4, LeO (impl_stackAt.l0 k y0 y1 y2 y3 y4) (impl_stackAt.l0 (k + 1) y0 y1 y2 y3 y4))
 | 0 => fun _ _ _ _ _ r h => by simp [impl_stackAt.l0] at h
 | k + 1 => by
  have ih0 := impl_stackAt.mono_l k
  {
  intro y0 y1 y2 y3 y4
  unfold impl_stackAt.l0
  exact qL
  }
theorem impl_stackAt.mono : ∀ a0 a1 a2 a3 k, LeO (impl_stackAt.f k a0 a1 a2 a3) (impl_stackAt.f (k + 1) a0 a1 a2 a3) := by
 intro a0 a1 a2 a3 k
 have ih0 := impl_stackAt.mono_l k
 unfold impl_stackAt.f
 exact qL
set_option maxHeartbeats 8000000 in
set_option maxRecDepth 100000 in
theorem impl_stackAt.calls (k : Nat) (a0_0 : Int) (a0_1 : Int) (A0_2 : Option Addr) (c0_2 : Nat) (l0_2 : List (S72)) (a1 : Int) (r1 : Int) (r2 : Bool) (w : World) (hr0_2 : Kd.C k72 w A0_2 l0_2.length l0_2) (hc0_2 : l0_2.length ≤ c0_2) (h : impl_stackAt.f k a0_0 a0_1 l0_2 a1 = some (r1, r2)) :
  Calls Try.prog 67 #[.agg #[.int .i64 a0_0, .int .i64 a0_1, .slice A0_2 l0_2.length c0_2], .int .i64 a1] w fun e w' => e = .returned (.tuple #[.int .i64 r1, .bool r2]) ∧ Below w.heap.size w w' := by
 have hu79 := Try.underlying79
 have HR0_2 := aM hr0_2
 have HC0_2 := aM hc0_2
 clear hr0_2 hc0_2
 have HB := aM (Below.refl w.heap.size w)
 have H : (impl_stackAt.l0 k a1 0 a0_0 a0_1 l0_2) = some (r1, r2) := h
 clear h
 have H' := aM H
 clear H
 go_enter Try.func67, Try.ntmps67
 go_wp2_with (first | ((with_reducible refine gate_dst (N := 2) rfl ?_); refine bx_ 2 #[.int .i64 a0_0, .int .i64 a0_1, .slice A0_2 l0_2.length c0_2] 79 ?_; intro gb120 hg w3 hbox hb; have BK120 := aM (hbox); have GW120 := aM (bz_ w hg qz1); have GE120 := GW120; replace HB := bS_ hb; clear hb hbox hg))
 repeat (go_quiet (first | ((with_reducible refine gate_dst (N := 2) rfl ?_); refine bx_ 2 #[.int .i64 a0_0, .int .i64 a0_1, .slice A0_2 l0_2.length c0_2] 79 ?_; intro gb120 hg w3 hbox hb; have BK120 := aM (hbox); have GW120 := aM (bz_ w hg qz1); have GE120 := GW120; replace HB := bS_ hb; clear hb hbox hg)); try go_wp2_with (first | ((with_reducible refine gate_dst (N := 2) rfl ?_); refine bx_ 2 #[.int .i64 a0_0, .int .i64 a0_1, .slice A0_2 l0_2.length c0_2] 79 ?_; intro gb120 hg w3 hbox hb; have BK120 := aM (hbox); have GW120 := aM (bz_ w hg qz1); have GE120 := GW120; replace HB := bS_ hb; clear hb hbox hg)))
 go_loopg [6] k (fun kq v6 w' => ∃ (x6_1 : Int), v6 = .int .i64 x6_1 ∧ Aside0 (impl_stackAt.l0 kq a1 x6_1 a0_0 a0_1 l0_2 = some (r1, r2)) ∧ Aside0 (kq ≤ k) ∧ Aside0 (w'.heap[gb120]? = some (.cells #[.int .i64 a0_0, .int .i64 a0_1, (.slice A0_2 l0_2.length c0_2)] 79 (0, 0))) ∧ Aside0 (Below w.heap.size w w'))
 case atStart => exact ⟨(0), qz5, H', ⟨Nat.le_refl _⟩, ⟨bk_ BK120.out⟩, ⟨qz1⟩⟩
 case round =>
  clear H'
  try clear p2
  obtain ⟨x6_1, rfl, HA, HK1, BK120, HB⟩ := hrel
  cases gk with
  | zero => exact absurd HA.out (by simp [impl_stackAt.l0])
  | succ k1 =>
   have H := HA.out
   clear HA
   simp only [impl_stackAt.l0] at H
   by_cases c4 : x6_1 < (l0_2.length : Int)
   {
   rw [if_pos c4] at H
   have c4b0 := decide_eq_true c4
   clear c4
   by_cases c5 : 0 ≤ x6_1
   {
   rw [if_pos c5] at H
   have c5b0 := decide_eq_true c5
   clear c5
   by_cases c6 : ((rd_T72 l0_2 x6_1).f0) < a1
   {
   rw [if_pos c6] at H
   have c6b0 := decide_eq_true c6
   clear c6
   have H' := aM H
   clear H
   obtain ⟨hcz7_0, hcz7_1, hcz7_2, hfz7_0, hfz7_1, hfz7_2⟩ := b6_ BK120.out
   have p121 : 0 ≤ (x6_1 : Int) := dt_
   have q121 : x6_1 < (l0_2.length : Int) := dt_
   obtain ⟨ad121, e121, hx121_0, hx121_1, hx121_2⟩ := at_T72 HR0_2.out x6_1 p121 q121
   cases e121
   replace hx121_0 := cB_ hx121_0
   replace hx121_1 := cB_ hx121_1
   replace hx121_2 := cB_ hx121_2
   replace p121 := eq_true p121
   replace q121 := eq_true q121
   go_wp2
   repeat (go_quiet (fail); try go_wp2)
   go_roundg k1
   case measure => have := HK1.out; omega
   case rel => exact ⟨(wrap64 (x6_1 + 1)), qz5, H', ⟨by have := HK1.out; omega⟩, ⟨bk_ BK120.out⟩, ⟨qz1⟩⟩
   }
   {
   rw [if_neg c6] at H
   have c6b0 := decide_eq_false c6
   clear c6
   simp only [Option.some.injEq, Prod.mk.injEq] at H
   obtain ⟨rfl, rfl⟩ := H
   obtain ⟨hcz8_0, hcz8_1, hcz8_2, hfz8_0, hfz8_1, hfz8_2⟩ := b6_ BK120.out
   have p121 : 0 ≤ (x6_1 : Int) := dt_
   have q121 : x6_1 < (l0_2.length : Int) := dt_
   obtain ⟨ad121, e121, hx121_0, hx121_1, hx121_2⟩ := at_T72 HR0_2.out x6_1 p121 q121
   cases e121
   replace hx121_0 := cB_ hx121_0
   replace hx121_1 := cB_ hx121_1
   replace hx121_2 := cB_ hx121_2
   replace p121 := eq_true p121
   replace q121 := eq_true q121
   have p122 : 0 ≤ (x6_1 : Int) := dt_
   have q122 : x6_1 < (l0_2.length : Int) := dt_
   obtain ⟨ad122, e122, hx122_0, hx122_1, hx122_2⟩ := at_T72 HR0_2.out x6_1 p122 q122
   obtain rfl : ad121 = ad122 := (by injection e122)
   replace hx122_0 := cB_ hx122_0
   replace hx122_1 := cB_ hx122_1
   replace hx122_2 := cB_ hx122_2
   replace p122 := eq_true p122
   replace q122 := eq_true q122
   go_wp2
   repeat (go_quiet (fail); try go_wp2)
   go_ret2
   exact ⟨qzw, qz1⟩
   }
   }
   {
   exact an_ c5 H
   }
   }
   {
   rw [if_neg c4] at H
   have c4b0 := decide_eq_false c4
   clear c4
   simp only [Option.some.injEq, Prod.mk.injEq] at H
   obtain ⟨rfl, rfl⟩ := H
   obtain ⟨hcz9_0, hcz9_1, hcz9_2, hfz9_0, hfz9_1, hfz9_2⟩ := b6_ BK120.out
   go_wp2
   repeat (go_quiet (fail); try go_wp2)
   go_ret2
   exact ⟨qzw, qz1⟩

   }
end Go.Proofs.Yteajnkondkfmgaa.PFnEach
