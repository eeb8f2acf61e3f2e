-- Made by a program of this session out of the translation. Lean checks it.
import Derived.Test.YteajnkondkfmgaaPFnPicksx0
import Derived.Test.YteajnkondkfmgaaPFnPicksx4
namespace Go.Proofs.Yteajnkondkfmgaa.PFnPicks
open Go.RowKit Go.Proofs.YteajnkondkfmgaaW.PrintWords Go.Proofs.YteajnkondkfmgaaW.PrintLast Go.Proofs.YteajnkondkfmgaaW.PrintMore
attribute [local go_sem] max2_int min2_int max_two min_two max_three min_three max_four min_four   -- for this text's walks alone
set_option linter.unusedVariables false
set_option linter.unusedSimpArgs false

/-! ### impl_stackAt: function 67 -/
def impl_stackAt.l0 : Nat → Int → Int → Int → Int → List (S72) → Option (Int × Bool)
 | 0, _, _, _, _, _ => none
 | k + 1, x1, x6, x130000, x130001, x130002 => if x6 < (x130002.length : Int) then (if 0 ≤ x6 then (if ((rd_T72 x130002 x6).f0) < x1 then (impl_stackAt.l0 k x1 (wrap64 (x6 + 1)) x130000 x130001 x130002) else (some (x6, (((rd_T72 x130002 x6).f0) == x1)))) else (none)) else (some (x6, false))
def impl_stackAt.f (k : Nat) (a0_0 : Int) (a0_1 : Int) (l0_2 : List (S72)) (a1 : Int) : Option (Int × Bool) := impl_stackAt.l0 k a1 0 a0_0 a0_1 l0_2
theorem impl_stackAt.mono_l : ∀ k, (∀ y0 y1 y2 y3 y4, LeO (impl_stackAt.l0 k y0 y1 y2 y3 y4) (impl_stackAt.l0 (k + 1) y0 y1 y2 y3 y4))
 | 0 => fun _ _ _ _ _ r h => by simp [impl_stackAt.l0] at h
 | k + 1 => by
  have ih0 := impl_stackAt.mono_l k
  {
  intro y0 y1 y2 y3 y4
  unfold impl_stackAt.l0
  exact qL
  }
theorem impl_stackAt.mono : ∀ a0 a1 a2 a3 k, LeO (impl_stackAt.f k a0 a1 a2 a3) (impl_stackAt.f (k + 1) a0 a1 a2 a3) := by
 intro a0 a1 a2 a3 k
 have ih0 := impl_stackAt.mono_l k
 unfold impl_stackAt.f
 exact qL
set_option maxHeartbeats 8000000 in
set_option maxRecDepth 100000 in
theorem impl_stackAt.calls (k : Nat) (a0_0 : Int) (a0_1 : Int) (A0_2 : Option Addr) (c0_2 : Nat) (l0_2 : List (S72)) (a1 : Int) (r1 : Int) (r2 : Bool) (w : World) (hr0_2 : Kd.C k72 w A0_2 l0_2.length l0_2) (hc0_2 : l0_2.length ≤ c0_2) (h : impl_stackAt.f k a0_0 a0_1 l0_2 a1 = some (r1, r2)) :
  Calls Try.prog 67 #[.agg #[.int .i64 a0_0, .int .i64 a0_1, .slice A0_2 l0_2.length c0_2], .int .i64 a1] w fun e w' => e = .returned (.tuple #[.int .i64 r1, .bool r2]) ∧ Below w.heap.size w w' := by
 have hu79 := Try.underlying79
 have HR0_2 := aM hr0_2
 have HC0_2 := aM hc0_2
 clear hr0_2 hc0_2
 have HB := aM (Below.refl w.heap.size w)
 have H : (impl_stackAt.l0 k a1 0 a0_0 a0_1 l0_2) = some (r1, r2) := h
 clear h
 have H' := aM H
 clear H
 go_enter Try.func67, Try.ntmps67
 go_wp2_with (first | ((with_reducible refine gate_dst (N := 2) rfl ?_); refine bx_ 2 #[.int .i64 a0_0, .int .i64 a0_1, .slice A0_2 l0_2.length c0_2] 79 ?_; intro gb129 hg w3 hbox hb; have BK129 := aM (hbox); have GW129 := aM (bz_ w hg qz1); have GE129 := GW129; replace HB := bS_ hb; clear hb hbox hg))
 repeat (go_quiet (first | ((with_reducible refine gate_dst (N := 2) rfl ?_); refine bx_ 2 #[.int .i64 a0_0, .int .i64 a0_1, .slice A0_2 l0_2.length c0_2] 79 ?_; intro gb129 hg w3 hbox hb; have BK129 := aM (hbox); have GW129 := aM (bz_ w hg qz1); have GE129 := GW129; replace HB := bS_ hb; clear hb hbox hg)); try go_wp2_with (first | ((with_reducible refine gate_dst (N := 2) rfl ?_); refine bx_ 2 #[.int .i64 a0_0, .int .i64 a0_1, .slice A0_2 l0_2.length c0_2] 79 ?_; intro gb129 hg w3 hbox hb; have BK129 := aM (hbox); have GW129 := aM (bz_ w hg qz1); have GE129 := GW129; replace HB := bS_ hb; clear hb hbox hg)))
 go_loopg [6] k (fun kq v6 w' => ∃ (x6_1 : Int), v6 = .int .i64 x6_1 ∧ Aside0 (impl_stackAt.l0 kq a1 x6_1 a0_0 a0_1 l0_2 = some (r1, r2)) ∧ Aside0 (kq ≤ k) ∧ Aside0 (w'.heap[gb129]? = some (.cells #[.int .i64 a0_0, .int .i64 a0_1, (.slice A0_2 l0_2.length c0_2)] 79 (0, 0))) ∧ Aside0 (Below w.heap.size w w'))
 case atStart => exact ⟨(0), qz5, H', ⟨Nat.le_refl _⟩, ⟨bk_ BK129.out⟩, ⟨qz1⟩⟩
 case round =>
  clear H'
  try clear p2
  obtain ⟨x6_1, rfl, HA, HK1, BK129, HB⟩ := hrel
  cases gk with
  | zero => exact absurd HA.out (by simp [impl_stackAt.l0])
  | succ k1 =>
   have H := HA.out
   clear HA
   simp only [impl_stackAt.l0] at H
   by_cases c4 : x6_1 < (l0_2.length : Int)
   {
   rw [if_pos c4] at H
   have c4b0 := decide_eq_true c4
   clear c4
   by_cases c5 : 0 ≤ x6_1
   {
   rw [if_pos c5] at H
   have c5b0 := decide_eq_true c5
   clear c5
   by_cases c6 : ((rd_T72 l0_2 x6_1).f0) < a1
   {
   rw [if_pos c6] at H
   have c6b0 := decide_eq_true c6
   clear c6
   have H' := aM H
   clear H
   obtain ⟨hcz7_0, hcz7_1, hcz7_2, hfz7_0, hfz7_1, hfz7_2⟩ := b6_ BK129.out
   have p130 : 0 ≤ (x6_1 : Int) := dt_
   have q130 : x6_1 < (l0_2.length : Int) := dt_
   obtain ⟨ad130, e130, hx130_0, hx130_1, hx130_2⟩ := at_T72 HR0_2.out x6_1 p130 q130
   cases e130
   replace hx130_0 := cB_ hx130_0
   replace hx130_1 := cB_ hx130_1
   replace hx130_2 := cB_ hx130_2
   replace p130 := eq_true p130
   replace q130 := eq_true q130
   go_wp2
   repeat (go_quiet (fail); try go_wp2)
   go_roundg k1
   case measure => have := HK1.out; omega
   case rel => exact ⟨(wrap64 (x6_1 + 1)), qz5, H', ⟨by have := HK1.out; omega⟩, ⟨bk_ BK129.out⟩, ⟨qz1⟩⟩
   }
   {
   rw [if_neg c6] at H
   have c6b0 := decide_eq_false c6
   clear c6
   simp only [Option.some.injEq, Prod.mk.injEq] at H
   obtain ⟨rfl, rfl⟩ := H
   obtain ⟨hcz8_0, hcz8_1, hcz8_2, hfz8_0, hfz8_1, hfz8_2⟩ := b6_ BK129.out
   have p130 : 0 ≤ (x6_1 : Int) := dt_
   have q130 : x6_1 < (l0_2.length : Int) := dt_
   obtain ⟨ad130, e130, hx130_0, hx130_1, hx130_2⟩ := at_T72 HR0_2.out x6_1 p130 q130
   cases e130
   replace hx130_0 := cB_ hx130_0
   replace hx130_1 := cB_ hx130_1
   replace hx130_2 := cB_ hx130_2
   replace p130 := eq_true p130
   replace q130 := eq_true q130
   have p131 : 0 ≤ (x6_1 : Int) := dt_
   have q131 : x6_1 < (l0_2.length : Int) := dt_
   obtain ⟨ad131, e131, hx131_0, hx131_1, hx131_2⟩ := at_T72 HR0_2.out x6_1 p131 q131
   obtain rfl : ad130 = ad131 := (by injection e131)
   replace hx131_0 := cB_ hx131_0
   replace hx131_1 := cB_ hx131_1
   replace hx131_2 := cB_ hx131_2
   replace p131 := eq_true p131
   replace q131 := eq_true q131
   go_wp2
   repeat (go_quiet (fail); try go_wp2)
   go_ret2
   exact ⟨qzw, qz1⟩
   }
   }
   {
   exact an_ c5 H
   }
   }
   {
   rw [if_neg c4] at H
   have c4b0 := decide_eq_false c4
   clear c4
   simp only [Option.some.injEq, Prod.mk.injEq] at H
   obtain ⟨rfl, rfl⟩ := H
   obtain ⟨hcz9_0, hcz9_1, hcz9_2, hfz9_0, hfz9_1, hfz9_2⟩ := b6_ BK129.out
   go_wp2
   repeat (go_quiet (fail); try go_wp2)
   go_ret2
   exact ⟨qzw, qz1⟩

   }
/-! ### impl_Free: function 22 -/
def impl_Free.l0 : Nat → Int → Int → List (S79) → Int → Int → Option (Int)
 | 0, _, _, _, _, _ => none
 | k + 1, x1, x5, x15, x16, x17 => if x17 < x16 then (if 0 ≤ x17 then (if x17 < (x15.length : Int) then ((impl_stackAt.f k ((rd_T79 x15 x17).f0) ((rd_T79 x15 x17).f1) ((rd_T79 x15 x17).f2) x1).bind fun bt136 => (if bt136.2 = true then (if 0 ≤ bt136.1 then (if bt136.1 < (((rd_T79 x15 x17).f2).length : Int) then (impl_Free.l0 k x1 (wrap64 (x5 + (wrap64 (((rd_T72 ((rd_T79 x15 x17).f2) bt136.1).f1) - ((rd_T72 ((rd_T79 x15 x17).f2) bt136.1).f2))))) x15 x16 (wrap64 (x17 + 1))) else (none)) else (none)) else (impl_Free.l0 k x1 x5 x15 x16 (wrap64 (x17 + 1))))) else (none)) else (none)) else (some x5)
def impl_Free.f (k : Nat) (l0_0 : List (S79)) (a1 : Int) : Option (Int) := (impl_StockOk.f k l0_0).bind fun t133 => (if t133 = true then (impl_Free.l0 k a1 0 l0_0 (l0_0.length : Int) 0) else (some 0))
theorem impl_Free.mono_l : ∀ k, (∀ y0 y1 y2 y3 y4, LeO (impl_Free.l0 k y0 y1 y2 y3 y4) (impl_Free.l0 (k + 1) y0 y1 y2 y3 y4))
 | 0 => fun _ _ _ _ _ r h => by simp [impl_Free.l0] at h
 | k + 1 => by
  have ih0 := impl_Free.mono_l k
  {
  intro y0 y1 y2 y3 y4
  unfold impl_Free.l0
  have j0 := @impl_StockOk.mono
  have j1 := @impl_stackAt.mono
  exact qL
  }
theorem impl_Free.mono : ∀ a0 a1 k, LeO (impl_Free.f k a0 a1) (impl_Free.f (k + 1) a0 a1) := by
 intro a0 a1 k
 have ih0 := impl_Free.mono_l k
 unfold impl_Free.f
 have j0 := @impl_StockOk.mono
 have j1 := @impl_stackAt.mono
 exact qL
set_option maxHeartbeats 8000000 in
set_option maxRecDepth 100000 in
theorem impl_Free.calls (k : Nat) (A0_0 : Option Addr) (c0_0 : Nat) (l0_0 : List (S79)) (a1 : Int) (r : Int) (w : World) (hr0_0 : Kd.C k79 w A0_0 l0_0.length l0_0) (hc0_0 : l0_0.length ≤ c0_0) (h : impl_Free.f k l0_0 a1 = some r) :
  Calls Try.prog 22 #[.agg #[.slice A0_0 l0_0.length c0_0], .int .i64 a1] w fun e w' => e = .returned (.int .i64 r) ∧ Below w.heap.size w w' := by
 have hu26 := Try.underlying26
 have hu79 := Try.underlying79
 have HR0_0 := aM hr0_0
 have HC0_0 := aM hc0_0
 clear hr0_0 hc0_0
 have HB := aM (Below.refl w.heap.size w)
 have H : ((impl_StockOk.f k l0_0).bind fun t133 => (if t133 = true then (impl_Free.l0 k a1 0 l0_0 (l0_0.length : Int) 0) else (some 0))) = some r := h
 clear h
 replace H := Option.bind_eq_some_iff.mp H
 obtain ⟨t133, A30, H⟩ := H
 replace H : (if t133 = true then (impl_Free.l0 k a1 0 l0_0 (l0_0.length : Int) 0) else (some 0)) = some r := H
 have A3 := aM A30
 clear A30
 by_cases c4 : t133 = true
 {
 subst c4
 rw [if_pos rfl] at H
 have H' := aM H
 clear H
 go_enter Try.func22, Try.ntmps22
 go_wp2_with (first | ((with_reducible refine gate_dst (N := 2) rfl ?_); refine bx_ 2 #[.slice A0_0 l0_0.length c0_0] 26 ?_; intro gb132 hg w5 hbox hb; have BK132 := aM (hbox); have GW132 := aM (bz_ w hg qz1); have GE132 := GW132; replace HB := bS_ hb; clear hb hbox hg; obtain ⟨hcz6_0, hfz6_0⟩ := bf_ BK132.out) | (go_at_call 21; (with_reducible refine (impl_StockOk.calls k _ _ l0_0 true _ ?side1 ?side2 A3.out).mono ?_); (case side1 => exact qz6); (case side2 => exact HC0_0.out); rintro e w7 ⟨rfl, hb⟩; replace BK132 := bB_ BK132 hb; replace HB := bS_ hb; (try clear hb); (try clear hb2); (try clear hk); (try clear hi); obtain ⟨hcz8_0, hfz8_0⟩ := bf_ BK132.out))
 repeat (go_quiet (first | ((with_reducible refine gate_dst (N := 2) rfl ?_); refine bx_ 2 #[.slice A0_0 l0_0.length c0_0] 26 ?_; intro gb132 hg w5 hbox hb; have BK132 := aM (hbox); have GW132 := aM (bz_ w hg qz1); have GE132 := GW132; replace HB := bS_ hb; clear hb hbox hg; obtain ⟨hcz6_0, hfz6_0⟩ := bf_ BK132.out) | (go_at_call 21; (with_reducible refine (impl_StockOk.calls k _ _ l0_0 true _ ?side1 ?side2 A3.out).mono ?_); (case side1 => exact qz6); (case side2 => exact HC0_0.out); rintro e w7 ⟨rfl, hb⟩; replace BK132 := bB_ BK132 hb; replace HB := bS_ hb; (try clear hb); (try clear hb2); (try clear hk); (try clear hi); obtain ⟨hcz8_0, hfz8_0⟩ := bf_ BK132.out)); try go_wp2_with (first | ((with_reducible refine gate_dst (N := 2) rfl ?_); refine bx_ 2 #[.slice A0_0 l0_0.length c0_0] 26 ?_; intro gb132 hg w5 hbox hb; have BK132 := aM (hbox); have GW132 := aM (bz_ w hg qz1); have GE132 := GW132; replace HB := bS_ hb; clear hb hbox hg; obtain ⟨hcz6_0, hfz6_0⟩ := bf_ BK132.out) | (go_at_call 21; (with_reducible refine (impl_StockOk.calls k _ _ l0_0 true _ ?side1 ?side2 A3.out).mono ?_); (case side1 => exact qz6); (case side2 => exact HC0_0.out); rintro e w7 ⟨rfl, hb⟩; replace BK132 := bB_ BK132 hb; replace HB := bS_ hb; (try clear hb); (try clear hb2); (try clear hk); (try clear hi); obtain ⟨hcz8_0, hfz8_0⟩ := bf_ BK132.out)))
 go_loopg [5, 17] k (fun kq v5 v17 w' => ∃ (x5_1 : Int) (x17_1 : Int), v5 = .int .i64 x5_1 ∧ v17 = .int .i64 x17_1 ∧ Aside0 (impl_Free.l0 kq a1 x5_1 l0_0 (l0_0.length : Int) x17_1 = some r) ∧ Aside0 (kq ≤ k) ∧ Aside0 (w'.heap[gb132]? = some (.cells #[(.slice A0_0 l0_0.length c0_0)] 26 (0, 0))) ∧ Aside0 (Below w.heap.size w w'))
 case atStart => exact ⟨(0), (0), qz5, qz5, H', ⟨Nat.le_refl _⟩, ⟨bk_ BK132.out⟩, ⟨qz1⟩⟩
 case round =>
  clear H'
  try clear c2
  try clear p2
  try clear c4
  try clear hcz6_0
  try clear hcz8_0
  try clear hfz6_0
  try clear hfz8_0
  obtain ⟨x5_1, x17_1, rfl, rfl, HA, HK1, BK132, HB⟩ := hrel
  cases gk with
  | zero => exact absurd HA.out (by simp [impl_Free.l0])
  | succ k1 =>
   have H := HA.out
   clear HA
   simp only [impl_Free.l0] at H
   by_cases c9 : x17_1 < (l0_0.length : Int)
   {
   rw [if_pos c9] at H
   have c9b0 := decide_eq_true c9
   clear c9
   by_cases c10 : 0 ≤ x17_1
   {
   rw [if_pos c10] at H
   have c10b0 := decide_eq_true c10
   clear c10
   by_cases c11 : x17_1 < (l0_0.length : Int)
   {
   rw [if_pos c11] at H
   have c11b0 := decide_eq_true c11
   clear c11
   replace H := Option.bind_eq_some_iff.mp H
   obtain ⟨⟨t136, t137⟩, A120, H⟩ := H
   replace H : (if t137 = true then (if 0 ≤ t136 then (if t136 < (((rd_T79 l0_0 x17_1).f2).length : Int) then (impl_Free.l0 k1 a1 (wrap64 (x5_1 + (wrap64 (((rd_T72 ((rd_T79 l0_0 x17_1).f2) t136).f1) - ((rd_T72 ((rd_T79 l0_0 x17_1).f2) t136).f2))))) l0_0 (l0_0.length : Int) (wrap64 (x17_1 + 1))) else (none)) else (none)) else (impl_Free.l0 k1 a1 x5_1 l0_0 (l0_0.length : Int) (wrap64 (x17_1 + 1)))) = some r := H
   have A12 := aM A120
   clear A120
   by_cases c13 : t137 = true
   {
   subst c13
   rw [if_pos rfl] at H
   by_cases c14 : 0 ≤ t136
   {
   rw [if_pos c14] at H
   have c14b0 := decide_eq_true c14
   clear c14
   by_cases c15 : t136 < (((rd_T79 l0_0 x17_1).f2).length : Int)
   {
   rw [if_pos c15] at H
   have c15b0 := decide_eq_true c15
   clear c15
   have H' := aM H
   clear H
   have p134 : 0 ≤ (x17_1 : Int) := dt_
   have q134 : x17_1 < (l0_0.length : Int) := dt_
   obtain ⟨ad134, A134_2, c134_2, e134, hx134_0, hx134_1, hx134_2, hl134_2, hi134_2⟩ := at_T79 HR0_0.out x17_1 p134 q134
   cases e134
   replace hx134_0 := cB_ hx134_0
   replace hx134_1 := cB_ hx134_1
   replace hx134_2 := cB_ hx134_2
   have HR134_2 := aM hi134_2
   have HC134_2 := aM hl134_2
   clear hi134_2 hl134_2
   replace p134 := eq_true p134
   replace q134 := eq_true q134
   go_wp2_with (first | ((with_reducible refine gate_dst (N := 7) rfl ?_); refine bx_ 7 #[.int .i64 0, .int .i64 0, .slice none 0 0] 79 ?_; intro gb135 hg w16 hbox hb; have BK135 := aM (hbox); have GW135 := aM (bz_ w hg qz1); have GE135 := GW135; replace HB := bS_ hb; obtain ⟨NB132_135, NB135_132⟩ := nb_ hg (bk_ BK132.out); replace BK132 := bB_ BK132 hb; clear hb hbox hg; have hnb17 := NB135_132.out; have hnc17 := NB132_135.out; obtain ⟨hcz18_0, hcz18_1, hcz18_2, hfz18_0, hfz18_1, hfz18_2⟩ := b6_ BK135.out) | (go_at_call 67; (with_reducible refine (impl_stackAt.calls k1 ((rd_T79 l0_0 x17_1).f0) ((rd_T79 l0_0 x17_1).f1) _ _ ((rd_T79 l0_0 x17_1).f2) a1 t136 true _ ?side1 ?side2 A12.out).mono ?_); (case side1 => exact Kd.C_below HR134_2.out qz1); (case side2 => exact HC134_2.out); rintro e w19 ⟨rfl, hb⟩; replace BK132 := aM (blk_below (g := gb132) (o := .cells #[.slice (some ad134) l0_0.length c0_0] 26 (0, 0)) (bk2_ BK132.out) hb); replace BK135 := aM (blk_below (g := gb135) (o := .cells #[.int .i64 ((rd_T79 l0_0 x17_1).f0), .int .i64 ((rd_T79 l0_0 x17_1).f1), .slice A134_2 ((rd_T79 l0_0 x17_1).f2).length c134_2] 79 (0, 0)) (by (with_reducible repeat (first | refine blk_drewN ?_ _ | refine blk_drew ?_ | refine blk_alloc ?_ _)); refine blk_put (cs := #[.int .i64 ((rd_T79 l0_0 x17_1).f0), .int .i64 ((rd_T79 l0_0 x17_1).f1), .slice none 0 0]) ?_ 2 _ rfl; (with_reducible repeat (first | refine blk_drewN ?_ _ | refine blk_drew ?_ | refine blk_alloc ?_ _)); refine blk_put (cs := #[.int .i64 ((rd_T79 l0_0 x17_1).f0), .int .i64 0, .slice none 0 0]) ?_ 1 _ rfl; (with_reducible repeat (first | refine blk_drewN ?_ _ | refine blk_drew ?_ | refine blk_alloc ?_ _)); refine blk_put (cs := #[.int .i64 0, .int .i64 0, .slice none 0 0]) ?_ 0 _ rfl; exact bk_ BK135.out) hb); replace HB := bS_ hb; (try clear hb); (try clear hb2); (try clear hk); (try clear hi); obtain ⟨hcz20_0, hcz20_1, hcz20_2, hfz20_0, hfz20_1, hfz20_2⟩ := b6_ BK135.out; have p138 : 0 ≤ (t136 : Int) := dt_; have q138 : t136 < (((rd_T79 l0_0 x17_1).f2).length : Int) := dt_; obtain ⟨ad138, e138, hx138_0, hx138_1, hx138_2⟩ := at_T72 HR134_2.out t136 p138 q138; cases e138; replace hx138_0 := cB_ hx138_0; replace hx138_1 := cB_ hx138_1; replace hx138_2 := cB_ hx138_2; replace p138 := eq_true p138; replace q138 := eq_true q138; have p139 : 0 ≤ (t136 : Int) := dt_; have q139 : t136 < (((rd_T79 l0_0 x17_1).f2).length : Int) := dt_; obtain ⟨ad139, e139, hx139_0, hx139_1, hx139_2⟩ := at_T72 HR134_2.out t136 p139 q139; obtain rfl : ad138 = ad139 := (by injection e139); replace hx139_0 := cB_ hx139_0; replace hx139_1 := cB_ hx139_1; replace hx139_2 := cB_ hx139_2; replace p139 := eq_true p139; replace q139 := eq_true q139))
   repeat (go_quiet (first | ((with_reducible refine gate_dst (N := 7) rfl ?_); refine bx_ 7 #[.int .i64 0, .int .i64 0, .slice none 0 0] 79 ?_; intro gb135 hg w16 hbox hb; have BK135 := aM (hbox); have GW135 := aM (bz_ w hg qz1); have GE135 := GW135; replace HB := bS_ hb; obtain ⟨NB132_135, NB135_132⟩ := nb_ hg (bk_ BK132.out); replace BK132 := bB_ BK132 hb; clear hb hbox hg; have hnb17 := NB135_132.out; have hnc17 := NB132_135.out; obtain ⟨hcz18_0, hcz18_1, hcz18_2, hfz18_0, hfz18_1, hfz18_2⟩ := b6_ BK135.out) | (go_at_call 67; (with_reducible refine (impl_stackAt.calls k1 ((rd_T79 l0_0 x17_1).f0) ((rd_T79 l0_0 x17_1).f1) _ _ ((rd_T79 l0_0 x17_1).f2) a1 t136 true _ ?side1 ?side2 A12.out).mono ?_); (case side1 => exact Kd.C_below HR134_2.out qz1); (case side2 => exact HC134_2.out); rintro e w19 ⟨rfl, hb⟩; replace BK132 := aM (blk_below (g := gb132) (o := .cells #[.slice (some ad134) l0_0.length c0_0] 26 (0, 0)) (bk2_ BK132.out) hb); replace BK135 := aM (blk_below (g := gb135) (o := .cells #[.int .i64 ((rd_T79 l0_0 x17_1).f0), .int .i64 ((rd_T79 l0_0 x17_1).f1), .slice A134_2 ((rd_T79 l0_0 x17_1).f2).length c134_2] 79 (0, 0)) (by (with_reducible repeat (first | refine blk_drewN ?_ _ | refine blk_drew ?_ | refine blk_alloc ?_ _)); refine blk_put (cs := #[.int .i64 ((rd_T79 l0_0 x17_1).f0), .int .i64 ((rd_T79 l0_0 x17_1).f1), .slice none 0 0]) ?_ 2 _ rfl; (with_reducible repeat (first | refine blk_drewN ?_ _ | refine blk_drew ?_ | refine blk_alloc ?_ _)); refine blk_put (cs := #[.int .i64 ((rd_T79 l0_0 x17_1).f0), .int .i64 0, .slice none 0 0]) ?_ 1 _ rfl; (with_reducible repeat (first | refine blk_drewN ?_ _ | refine blk_drew ?_ | refine blk_alloc ?_ _)); refine blk_put (cs := #[.int .i64 0, .int .i64 0, .slice none 0 0]) ?_ 0 _ rfl; exact bk_ BK135.out) hb); replace HB := bS_ hb; (try clear hb); (try clear hb2); (try clear hk); (try clear hi); obtain ⟨hcz20_0, hcz20_1, hcz20_2, hfz20_0, hfz20_1, hfz20_2⟩ := b6_ BK135.out; have p138 : 0 ≤ (t136 : Int) := dt_; have q138 : t136 < (((rd_T79 l0_0 x17_1).f2).length : Int) := dt_; obtain ⟨ad138, e138, hx138_0, hx138_1, hx138_2⟩ := at_T72 HR134_2.out t136 p138 q138; cases e138; replace hx138_0 := cB_ hx138_0; replace hx138_1 := cB_ hx138_1; replace hx138_2 := cB_ hx138_2; replace p138 := eq_true p138; replace q138 := eq_true q138; have p139 : 0 ≤ (t136 : Int) := dt_; have q139 : t136 < (((rd_T79 l0_0 x17_1).f2).length : Int) := dt_; obtain ⟨ad139, e139, hx139_0, hx139_1, hx139_2⟩ := at_T72 HR134_2.out t136 p139 q139; obtain rfl : ad138 = ad139 := (by injection e139); replace hx139_0 := cB_ hx139_0; replace hx139_1 := cB_ hx139_1; replace hx139_2 := cB_ hx139_2; replace p139 := eq_true p139; replace q139 := eq_true q139)); try go_wp2_with (first | ((with_reducible refine gate_dst (N := 7) rfl ?_); refine bx_ 7 #[.int .i64 0, .int .i64 0, .slice none 0 0] 79 ?_; intro gb135 hg w16 hbox hb; have BK135 := aM (hbox); have GW135 := aM (bz_ w hg qz1); have GE135 := GW135; replace HB := bS_ hb; obtain ⟨NB132_135, NB135_132⟩ := nb_ hg (bk_ BK132.out); replace BK132 := bB_ BK132 hb; clear hb hbox hg; have hnb17 := NB135_132.out; have hnc17 := NB132_135.out; obtain ⟨hcz18_0, hcz18_1, hcz18_2, hfz18_0, hfz18_1, hfz18_2⟩ := b6_ BK135.out) | (go_at_call 67; (with_reducible refine (impl_stackAt.calls k1 ((rd_T79 l0_0 x17_1).f0) ((rd_T79 l0_0 x17_1).f1) _ _ ((rd_T79 l0_0 x17_1).f2) a1 t136 true _ ?side1 ?side2 A12.out).mono ?_); (case side1 => exact Kd.C_below HR134_2.out qz1); (case side2 => exact HC134_2.out); rintro e w19 ⟨rfl, hb⟩; replace BK132 := aM (blk_below (g := gb132) (o := .cells #[.slice (some ad134) l0_0.length c0_0] 26 (0, 0)) (bk2_ BK132.out) hb); replace BK135 := aM (blk_below (g := gb135) (o := .cells #[.int .i64 ((rd_T79 l0_0 x17_1).f0), .int .i64 ((rd_T79 l0_0 x17_1).f1), .slice A134_2 ((rd_T79 l0_0 x17_1).f2).length c134_2] 79 (0, 0)) (by (with_reducible repeat (first | refine blk_drewN ?_ _ | refine blk_drew ?_ | refine blk_alloc ?_ _)); refine blk_put (cs := #[.int .i64 ((rd_T79 l0_0 x17_1).f0), .int .i64 ((rd_T79 l0_0 x17_1).f1), .slice none 0 0]) ?_ 2 _ rfl; (with_reducible repeat (first | refine blk_drewN ?_ _ | refine blk_drew ?_ | refine blk_alloc ?_ _)); refine blk_put (cs := #[.int .i64 ((rd_T79 l0_0 x17_1).f0), .int .i64 0, .slice none 0 0]) ?_ 1 _ rfl; (with_reducible repeat (first | refine blk_drewN ?_ _ | refine blk_drew ?_ | refine blk_alloc ?_ _)); refine blk_put (cs := #[.int .i64 0, .int .i64 0, .slice none 0 0]) ?_ 0 _ rfl; exact bk_ BK135.out) hb); replace HB := bS_ hb; (try clear hb); (try clear hb2); (try clear hk); (try clear hi); obtain ⟨hcz20_0, hcz20_1, hcz20_2, hfz20_0, hfz20_1, hfz20_2⟩ := b6_ BK135.out; have p138 : 0 ≤ (t136 : Int) := dt_; have q138 : t136 < (((rd_T79 l0_0 x17_1).f2).length : Int) := dt_; obtain ⟨ad138, e138, hx138_0, hx138_1, hx138_2⟩ := at_T72 HR134_2.out t136 p138 q138; cases e138; replace hx138_0 := cB_ hx138_0; replace hx138_1 := cB_ hx138_1; replace hx138_2 := cB_ hx138_2; replace p138 := eq_true p138; replace q138 := eq_true q138; have p139 : 0 ≤ (t136 : Int) := dt_; have q139 : t136 < (((rd_T79 l0_0 x17_1).f2).length : Int) := dt_; obtain ⟨ad139, e139, hx139_0, hx139_1, hx139_2⟩ := at_T72 HR134_2.out t136 p139 q139; obtain rfl : ad138 = ad139 := (by injection e139); replace hx139_0 := cB_ hx139_0; replace hx139_1 := cB_ hx139_1; replace hx139_2 := cB_ hx139_2; replace p139 := eq_true p139; replace q139 := eq_true q139)))
   go_roundg k1
   case measure => have := HK1.out; omega
   case rel => exact ⟨(wrap64 (x5_1 + (wrap64 (((rd_T72 ((rd_T79 l0_0 x17_1).f2) t136).f1) - ((rd_T72 ((rd_T79 l0_0 x17_1).f2) t136).f2))))), (wrap64 (x17_1 + 1)), qz5, qz5, H', ⟨by have := HK1.out; omega⟩, ⟨bk_ BK132.out⟩, ⟨qz1⟩⟩
   }
   {
   exact an_ c15 H
   }
   }
   {
   exact an_ c14 H
   }
   }
   {
   replace c13 := Bool.eq_false_iff.mpr c13
   subst c13
   rw [if_neg (show ¬ (false = true) by decide)] at H
   have H' := aM H
   clear H
   have p134 : 0 ≤ (x17_1 : Int) := dt_
   have q134 : x17_1 < (l0_0.length : Int) := dt_
   obtain ⟨ad134, A134_2, c134_2, e134, hx134_0, hx134_1, hx134_2, hl134_2, hi134_2⟩ := at_T79 HR0_0.out x17_1 p134 q134
   cases e134
   replace hx134_0 := cB_ hx134_0
   replace hx134_1 := cB_ hx134_1
   replace hx134_2 := cB_ hx134_2
   have HR134_2 := aM hi134_2
   have HC134_2 := aM hl134_2
   clear hi134_2 hl134_2
   replace p134 := eq_true p134
   replace q134 := eq_true q134
   go_wp2_with (first | ((with_reducible refine gate_dst (N := 7) rfl ?_); refine bx_ 7 #[.int .i64 0, .int .i64 0, .slice none 0 0] 79 ?_; intro gb135 hg w21 hbox hb; have BK135 := aM (hbox); have GW135 := aM (bz_ w hg qz1); have GE135 := GW135; replace HB := bS_ hb; obtain ⟨NB132_135, NB135_132⟩ := nb_ hg (bk_ BK132.out); replace BK132 := bB_ BK132 hb; clear hb hbox hg; have hnb22 := NB135_132.out; have hnc22 := NB132_135.out; obtain ⟨hcz23_0, hcz23_1, hcz23_2, hfz23_0, hfz23_1, hfz23_2⟩ := b6_ BK135.out) | (go_at_call 67; (with_reducible refine (impl_stackAt.calls k1 ((rd_T79 l0_0 x17_1).f0) ((rd_T79 l0_0 x17_1).f1) _ _ ((rd_T79 l0_0 x17_1).f2) a1 t136 false _ ?side1 ?side2 A12.out).mono ?_); (case side1 => exact Kd.C_below HR134_2.out qz1); (case side2 => exact HC134_2.out); rintro e w24 ⟨rfl, hb⟩; replace BK132 := aM (blk_below (g := gb132) (o := .cells #[.slice (some ad134) l0_0.length c0_0] 26 (0, 0)) (bk2_ BK132.out) hb); replace BK135 := aM (blk_below (g := gb135) (o := .cells #[.int .i64 ((rd_T79 l0_0 x17_1).f0), .int .i64 ((rd_T79 l0_0 x17_1).f1), .slice A134_2 ((rd_T79 l0_0 x17_1).f2).length c134_2] 79 (0, 0)) (by (with_reducible repeat (first | refine blk_drewN ?_ _ | refine blk_drew ?_ | refine blk_alloc ?_ _)); refine blk_put (cs := #[.int .i64 ((rd_T79 l0_0 x17_1).f0), .int .i64 ((rd_T79 l0_0 x17_1).f1), .slice none 0 0]) ?_ 2 _ rfl; (with_reducible repeat (first | refine blk_drewN ?_ _ | refine blk_drew ?_ | refine blk_alloc ?_ _)); refine blk_put (cs := #[.int .i64 ((rd_T79 l0_0 x17_1).f0), .int .i64 0, .slice none 0 0]) ?_ 1 _ rfl; (with_reducible repeat (first | refine blk_drewN ?_ _ | refine blk_drew ?_ | refine blk_alloc ?_ _)); refine blk_put (cs := #[.int .i64 0, .int .i64 0, .slice none 0 0]) ?_ 0 _ rfl; exact bk_ BK135.out) hb); replace HB := bS_ hb; (try clear hb); (try clear hb2); (try clear hk); (try clear hi)))
   repeat (go_quiet (first | ((with_reducible refine gate_dst (N := 7) rfl ?_); refine bx_ 7 #[.int .i64 0, .int .i64 0, .slice none 0 0] 79 ?_; intro gb135 hg w21 hbox hb; have BK135 := aM (hbox); have GW135 := aM (bz_ w hg qz1); have GE135 := GW135; replace HB := bS_ hb; obtain ⟨NB132_135, NB135_132⟩ := nb_ hg (bk_ BK132.out); replace BK132 := bB_ BK132 hb; clear hb hbox hg; have hnb22 := NB135_132.out; have hnc22 := NB132_135.out; obtain ⟨hcz23_0, hcz23_1, hcz23_2, hfz23_0, hfz23_1, hfz23_2⟩ := b6_ BK135.out) | (go_at_call 67; (with_reducible refine (impl_stackAt.calls k1 ((rd_T79 l0_0 x17_1).f0) ((rd_T79 l0_0 x17_1).f1) _ _ ((rd_T79 l0_0 x17_1).f2) a1 t136 false _ ?side1 ?side2 A12.out).mono ?_); (case side1 => exact Kd.C_below HR134_2.out qz1); (case side2 => exact HC134_2.out); rintro e w24 ⟨rfl, hb⟩; replace BK132 := aM (blk_below (g := gb132) (o := .cells #[.slice (some ad134) l0_0.length c0_0] 26 (0, 0)) (bk2_ BK132.out) hb); replace BK135 := aM (blk_below (g := gb135) (o := .cells #[.int .i64 ((rd_T79 l0_0 x17_1).f0), .int .i64 ((rd_T79 l0_0 x17_1).f1), .slice A134_2 ((rd_T79 l0_0 x17_1).f2).length c134_2] 79 (0, 0)) (by (with_reducible repeat (first | refine blk_drewN ?_ _ | refine blk_drew ?_ | refine blk_alloc ?_ _)); refine blk_put (cs := #[.int .i64 ((rd_T79 l0_0 x17_1).f0), .int .i64 ((rd_T79 l0_0 x17_1).f1), .slice none 0 0]) ?_ 2 _ rfl; (with_reducible repeat (first | refine blk_drewN ?_ _ | refine blk_drew ?_ | refine blk_alloc ?_ _)); refine blk_put (cs := #[.int .i64 ((rd_T79 l0_0 x17_1).f0), .int .i64 0, .slice none 0 0]) ?_ 1 _ rfl; (with_reducible repeat (first | refine blk_drewN ?_ _ | refine blk_drew ?_ | refine blk_alloc ?_ _)); refine blk_put (cs := #[.int .i64 0, .int .i64 0, .slice none 0 0]) ?_ 0 _ rfl; exact bk_ BK135.out) hb); replace HB := bS_ hb; (try clear hb); (try clear hb2); (try clear hk); (try clear hi))); try go_wp2_with (first | ((with_reducible refine gate_dst (N := 7) rfl ?_); refine bx_ 7 #[.int .i64 0, .int .i64 0, .slice none 0 0] 79 ?_; intro gb135 hg w21 hbox hb; have BK135 := aM (hbox); have GW135 := aM (bz_ w hg qz1); have GE135 := GW135; replace HB := bS_ hb; obtain ⟨NB132_135, NB135_132⟩ := nb_ hg (bk_ BK132.out); replace BK132 := bB_ BK132 hb; clear hb hbox hg; have hnb22 := NB135_132.out; have hnc22 := NB132_135.out; obtain ⟨hcz23_0, hcz23_1, hcz23_2, hfz23_0, hfz23_1, hfz23_2⟩ := b6_ BK135.out) | (go_at_call 67; (with_reducible refine (impl_stackAt.calls k1 ((rd_T79 l0_0 x17_1).f0) ((rd_T79 l0_0 x17_1).f1) _ _ ((rd_T79 l0_0 x17_1).f2) a1 t136 false _ ?side1 ?side2 A12.out).mono ?_); (case side1 => exact Kd.C_below HR134_2.out qz1); (case side2 => exact HC134_2.out); rintro e w24 ⟨rfl, hb⟩; replace BK132 := aM (blk_below (g := gb132) (o := .cells #[.slice (some ad134) l0_0.length c0_0] 26 (0, 0)) (bk2_ BK132.out) hb); replace BK135 := aM (blk_below (g := gb135) (o := .cells #[.int .i64 ((rd_T79 l0_0 x17_1).f0), .int .i64 ((rd_T79 l0_0 x17_1).f1), .slice A134_2 ((rd_T79 l0_0 x17_1).f2).length c134_2] 79 (0, 0)) (by (with_reducible repeat (first | refine blk_drewN ?_ _ | refine blk_drew ?_ | refine blk_alloc ?_ _)); refine blk_put (cs := #[.int .i64 ((rd_T79 l0_0 x17_1).f0), .int .i64 ((rd_T79 l0_0 x17_1).f1), .slice none 0 0]) ?_ 2 _ rfl; (with_reducible repeat (first | refine blk_drewN ?_ _ | refine blk_drew ?_ | refine blk_alloc ?_ _)); refine blk_put (cs := #[.int .i64 ((rd_T79 l0_0 x17_1).f0), .int .i64 0, .slice none 0 0]) ?_ 1 _ rfl; (with_reducible repeat (first | refine blk_drewN ?_ _ | refine blk_drew ?_ | refine blk_alloc ?_ _)); refine blk_put (cs := #[.int .i64 0, .int .i64 0, .slice none 0 0]) ?_ 0 _ rfl; exact bk_ BK135.out) hb); replace HB := bS_ hb; (try clear hb); (try clear hb2); (try clear hk); (try clear hi))))
   go_roundg k1
   case measure => have := HK1.out; omega
   case rel => exact ⟨(x5_1), (wrap64 (x17_1 + 1)), qz5, qz5, H', ⟨by have := HK1.out; omega⟩, ⟨bk_ BK132.out⟩, ⟨qz1⟩⟩
   }
   }
   {
   exact an_ c11 H
   }
   }
   {
   exact an_ c10 H
   }
   }
   {
   rw [if_neg c9] at H
   have c9b0 := decide_eq_false c9
   clear c9
   obtain rfl := Option.some.inj H
   simp only [Option.some.injEq, Prod.mk.injEq] at H
   obtain ⟨rfl⟩ := H
   go_wp2
   repeat (go_quiet (fail); try go_wp2)
   go_ret
   exact ⟨qzw, qz1⟩
   }
 }
 {
 replace c4 := Bool.eq_false_iff.mpr c4
 subst c4
 rw [if_neg (show ¬ (false = true) by decide)] at H
 obtain rfl := Option.some.inj H
 simp only [Option.some.injEq, Prod.mk.injEq] at H
 obtain ⟨rfl⟩ := H
 go_enter Try.func22, Try.ntmps22
 go_wp2_with (first | ((with_reducible refine gate_dst (N := 2) rfl ?_); refine bx_ 2 #[.slice A0_0 l0_0.length c0_0] 26 ?_; intro gb132 hg w25 hbox hb; have BK132 := aM (hbox); have GW132 := aM (bz_ w hg qz1); have GE132 := GW132; replace HB := bS_ hb; clear hb hbox hg; obtain ⟨hcz26_0, hfz26_0⟩ := bf_ BK132.out) | (go_at_call 21; (with_reducible refine (impl_StockOk.calls k _ _ l0_0 false _ ?side1 ?side2 A3.out).mono ?_); (case side1 => exact qz6); (case side2 => exact HC0_0.out); rintro e w27 ⟨rfl, hb⟩; replace BK132 := bB_ BK132 hb; replace HB := bS_ hb; (try clear hb); (try clear hb2); (try clear hk); (try clear hi)))
 repeat (go_quiet (first | ((with_reducible refine gate_dst (N := 2) rfl ?_); refine bx_ 2 #[.slice A0_0 l0_0.length c0_0] 26 ?_; intro gb132 hg w25 hbox hb; have BK132 := aM (hbox); have GW132 := aM (bz_ w hg qz1); have GE132 := GW132; replace HB := bS_ hb; clear hb hbox hg; obtain ⟨hcz26_0, hfz26_0⟩ := bf_ BK132.out) | (go_at_call 21; (with_reducible refine (impl_StockOk.calls k _ _ l0_0 false _ ?side1 ?side2 A3.out).mono ?_); (case side1 => exact qz6); (case side2 => exact HC0_0.out); rintro e w27 ⟨rfl, hb⟩; replace BK132 := bB_ BK132 hb; replace HB := bS_ hb; (try clear hb); (try clear hb2); (try clear hk); (try clear hi))); try go_wp2_with (first | ((with_reducible refine gate_dst (N := 2) rfl ?_); refine bx_ 2 #[.slice A0_0 l0_0.length c0_0] 26 ?_; intro gb132 hg w25 hbox hb; have BK132 := aM (hbox); have GW132 := aM (bz_ w hg qz1); have GE132 := GW132; replace HB := bS_ hb; clear hb hbox hg; obtain ⟨hcz26_0, hfz26_0⟩ := bf_ BK132.out) | (go_at_call 21; (with_reducible refine (impl_StockOk.calls k _ _ l0_0 false _ ?side1 ?side2 A3.out).mono ?_); (case side1 => exact qz6); (case side2 => exact HC0_0.out); rintro e w27 ⟨rfl, hb⟩; replace BK132 := bB_ BK132 hb; replace HB := bS_ hb; (try clear hb); (try clear hb2); (try clear hk); (try clear hi))))
 go_ret
 exact ⟨qzw, qz1⟩

 }
/-! ### impl_Count: function 23 -/
def impl_Count.l0 : Nat → Int → Int → List (S79) → Int → Int → Option (Int)
 | 0, _, _, _, _, _ => none
 | k + 1, x1, x5, x15, x16, x17 => if x17 < x16 then (if 0 ≤ x17 then (if x17 < (x15.length : Int) then ((impl_stackAt.f k ((rd_T79 x15 x17).f0) ((rd_T79 x15 x17).f1) ((rd_T79 x15 x17).f2) x1).bind fun bt144 => (if bt144.2 = true then (if 0 ≤ bt144.1 then (if bt144.1 < (((rd_T79 x15 x17).f2).length : Int) then (impl_Count.l0 k x1 (wrap64 (x5 + ((rd_T72 ((rd_T79 x15 x17).f2) bt144.1).f1))) x15 x16 (wrap64 (x17 + 1))) else (none)) else (none)) else (impl_Count.l0 k x1 x5 x15 x16 (wrap64 (x17 + 1))))) else (none)) else (none)) else (some x5)
def impl_Count.f (k : Nat) (l0_0 : List (S79)) (a1 : Int) : Option (Int) := (impl_StockOk.f k l0_0).bind fun t141 => (if t141 = true then (impl_Count.l0 k a1 0 l0_0 (l0_0.length : Int) 0) else (some 0))
theorem impl_Count.mono_l : ∀ k, (∀ y0 y1 y2 y3 y4, LeO (impl_Count.l0 k y0 y1 y2 y3 y4) (impl_Count.l0 (k + 1) y0 y1 y2 y3 y4))
 | 0 => fun _ _ _ _ _ r h => by simp [impl_Count.l0] at h
 | k + 1 => by
  have ih0 := impl_Count.mono_l k
  {
  intro y0 y1 y2 y3 y4
  unfold impl_Count.l0
  have j0 := @impl_StockOk.mono
  have j1 := @impl_stackAt.mono
  exact qL
  }
theorem impl_Count.mono : ∀ a0 a1 k, LeO (impl_Count.f k a0 a1) (impl_Count.f (k + 1) a0 a1) := by
 intro a0 a1 k
 have ih0 := impl_Count.mono_l k
 unfold impl_Count.f
 have j0 := @impl_StockOk.mono
 have j1 := @impl_stackAt.mono
 exact qL
set_option maxHeartbeats 8000000 in
set_option maxRecDepth 100000 in
theorem impl_Count.calls (k : Nat) (A0_0 : Option Addr) (c0_0 : Nat) (l0_0 : List (S79)) (a1 : Int) (r : Int) (w : World) (hr0_0 : Kd.C k79 w A0_0 l0_0.length l0_0) (hc0_0 : l0_0.length ≤ c0_0) (h : impl_Count.f k l0_0 a1 = some r) :
  Calls Try.prog 23 #[.agg #[.slice A0_0 l0_0.length c0_0], .int .i64 a1] w fun e w' => e = .returned (.int .i64 r) ∧ Below w.heap.size w w' := by
 have hu26 := Try.underlying26
 have hu79 := Try.underlying79
 have HR0_0 := aM hr0_0
 have HC0_0 := aM hc0_0
 clear hr0_0 hc0_0
 have HB := aM (Below.refl w.heap.size w)
 have H : ((impl_StockOk.f k l0_0).bind fun t141 => (if t141 = true then (impl_Count.l0 k a1 0 l0_0 (l0_0.length : Int) 0) else (some 0))) = some r := h
 clear h
 replace H := Option.bind_eq_some_iff.mp H
 obtain ⟨t141, A30, H⟩ := H
 replace H : (if t141 = true then (impl_Count.l0 k a1 0 l0_0 (l0_0.length : Int) 0) else (some 0)) = some r := H
 have A3 := aM A30
 clear A30
 by_cases c4 : t141 = true
 {
 subst c4
 rw [if_pos rfl] at H
 have H' := aM H
 clear H
 go_enter Try.func23, Try.ntmps23
 go_wp2_with (first | ((with_reducible refine gate_dst (N := 2) rfl ?_); refine bx_ 2 #[.slice A0_0 l0_0.length c0_0] 26 ?_; intro gb140 hg w5 hbox hb; have BK140 := aM (hbox); have GW140 := aM (bz_ w hg qz1); have GE140 := GW140; replace HB := bS_ hb; clear hb hbox hg; obtain ⟨hcz6_0, hfz6_0⟩ := bf_ BK140.out) | ((with_reducible refine gate_callee (f := 21) rfl ?_); refine goesL_ (some 11) rfl rfl Try.func21 (by kernel_rfl) rfl #[.agg #[.slice A0_0 l0_0.length c0_0]] rfl qz4 ?_; (with_reducible refine (impl_StockOk.calls k _ _ l0_0 true _ ?side1 ?side2 A3.out).mono ?_); (case side1 => exact qz6); (case side2 => exact HC0_0.out); rintro e w7 ⟨rfl, hb⟩; refine ⟨_, rfl, ?_⟩; replace BK140 := bB_ BK140 hb; replace HB := bS_ hb; (try clear hb); (try clear hb2); (try clear hk); (try clear hi); obtain ⟨hcz8_0, hfz8_0⟩ := bf_ BK140.out))
 go_loopg [5, 17] k (fun kq v5 v17 w' => ∃ (x5_1 : Int) (x17_1 : Int), v5 = .int .i64 x5_1 ∧ v17 = .int .i64 x17_1 ∧ Aside0 (impl_Count.l0 kq a1 x5_1 l0_0 (l0_0.length : Int) x17_1 = some r) ∧ Aside0 (kq ≤ k) ∧ Aside0 (w'.heap[gb140]? = some (.cells #[(.slice A0_0 l0_0.length c0_0)] 26 (0, 0))) ∧ Aside0 (Below w.heap.size w w'))
 case atStart => exact ⟨(0), (0), qz5, qz5, H', ⟨Nat.le_refl _⟩, ⟨bk_ BK140.out⟩, ⟨qz1⟩⟩
 case round =>
  clear H'
  try clear c2
  try clear p2
  try clear c4
  try clear hcz6_0
  try clear hcz8_0
  try clear hfz6_0
  try clear hfz8_0
  obtain ⟨x5_1, x17_1, rfl, rfl, HA, HK1, BK140, HB⟩ := hrel
  cases gk with
  | zero => exact absurd HA.out (by simp [impl_Count.l0])
  | succ k1 =>
   have H := HA.out
   clear HA
   simp only [impl_Count.l0] at H
   by_cases c9 : x17_1 < (l0_0.length : Int)
   {
   rw [if_pos c9] at H
   have c9b0 := decide_eq_true c9
   clear c9
   by_cases c10 : 0 ≤ x17_1
   {
   rw [if_pos c10] at H
   have c10b0 := decide_eq_true c10
   clear c10
   by_cases c11 : x17_1 < (l0_0.length : Int)
   {
   rw [if_pos c11] at H
   have c11b0 := decide_eq_true c11
   clear c11
   replace H := Option.bind_eq_some_iff.mp H
   obtain ⟨⟨t144, t145⟩, A120, H⟩ := H
   replace H : (if t145 = true then (if 0 ≤ t144 then (if t144 < (((rd_T79 l0_0 x17_1).f2).length : Int) then (impl_Count.l0 k1 a1 (wrap64 (x5_1 + ((rd_T72 ((rd_T79 l0_0 x17_1).f2) t144).f1))) l0_0 (l0_0.length : Int) (wrap64 (x17_1 + 1))) else (none)) else (none)) else (impl_Count.l0 k1 a1 x5_1 l0_0 (l0_0.length : Int) (wrap64 (x17_1 + 1)))) = some r := H
   have A12 := aM A120
   clear A120
   by_cases c13 : t145 = true
   {
   subst c13
   rw [if_pos rfl] at H
   by_cases c14 : 0 ≤ t144
   {
   rw [if_pos c14] at H
   have c14b0 := decide_eq_true c14
   clear c14
   by_cases c15 : t144 < (((rd_T79 l0_0 x17_1).f2).length : Int)
   {
   rw [if_pos c15] at H
   have c15b0 := decide_eq_true c15
   clear c15
   have H' := aM H
   clear H
   have p142 : 0 ≤ (x17_1 : Int) := dt_
   have q142 : x17_1 < (l0_0.length : Int) := dt_
   obtain ⟨ad142, A142_2, c142_2, e142, hx142_0, hx142_1, hx142_2, hl142_2, hi142_2⟩ := at_T79 HR0_0.out x17_1 p142 q142
   cases e142
   replace hx142_0 := cB_ hx142_0
   replace hx142_1 := cB_ hx142_1
   replace hx142_2 := cB_ hx142_2
   have HR142_2 := aM hi142_2
   have HC142_2 := aM hl142_2
   clear hi142_2 hl142_2
   replace p142 := eq_true p142
   replace q142 := eq_true q142
   go_wp2_with (first | ((with_reducible refine gate_dst (N := 7) rfl ?_); refine bx_ 7 #[.int .i64 0, .int .i64 0, .slice none 0 0] 79 ?_; intro gb143 hg w16 hbox hb; have BK143 := aM (hbox); have GW143 := aM (bz_ w hg qz1); have GE143 := GW143; replace HB := bS_ hb; obtain ⟨NB140_143, NB143_140⟩ := nb_ hg (bk_ BK140.out); replace BK140 := bB_ BK140 hb; clear hb hbox hg; have hnb17 := NB143_140.out; have hnc17 := NB140_143.out; obtain ⟨hcz18_0, hcz18_1, hcz18_2, hfz18_0, hfz18_1, hfz18_2⟩ := b6_ BK143.out) | ((with_reducible refine gate_callee (f := 67) rfl ?_); refine goesL_ (some 24) rfl rfl Try.func67 (by kernel_rfl) rfl #[.agg #[.int .i64 ((rd_T79 l0_0 x17_1).f0), .int .i64 ((rd_T79 l0_0 x17_1).f1), .slice A142_2 ((rd_T79 l0_0 x17_1).f2).length c142_2], .int .i64 a1] rfl qz4 ?_; (with_reducible refine (impl_stackAt.calls k1 ((rd_T79 l0_0 x17_1).f0) ((rd_T79 l0_0 x17_1).f1) _ _ ((rd_T79 l0_0 x17_1).f2) a1 t144 true _ ?side1 ?side2 A12.out).mono ?_); (case side1 => exact Kd.C_below HR142_2.out qz1); (case side2 => exact HC142_2.out); rintro e w19 ⟨rfl, hb⟩; refine ⟨_, rfl, ?_⟩; replace BK140 := aM (blk_below (g := gb140) (o := .cells #[.slice (some ad142) l0_0.length c0_0] 26 (0, 0)) (bk2_ BK140.out) hb); replace BK143 := aM (blk_below (g := gb143) (o := .cells #[.int .i64 ((rd_T79 l0_0 x17_1).f0), .int .i64 ((rd_T79 l0_0 x17_1).f1), .slice A142_2 ((rd_T79 l0_0 x17_1).f2).length c142_2] 79 (0, 0)) (by (with_reducible repeat (first | refine blk_drewN ?_ _ | refine blk_drew ?_ | refine blk_alloc ?_ _)); refine blk_put (cs := #[.int .i64 ((rd_T79 l0_0 x17_1).f0), .int .i64 ((rd_T79 l0_0 x17_1).f1), .slice none 0 0]) ?_ 2 _ rfl; (with_reducible repeat (first | refine blk_drewN ?_ _ | refine blk_drew ?_ | refine blk_alloc ?_ _)); refine blk_put (cs := #[.int .i64 ((rd_T79 l0_0 x17_1).f0), .int .i64 0, .slice none 0 0]) ?_ 1 _ rfl; (with_reducible repeat (first | refine blk_drewN ?_ _ | refine blk_drew ?_ | refine blk_alloc ?_ _)); refine blk_put (cs := #[.int .i64 0, .int .i64 0, .slice none 0 0]) ?_ 0 _ rfl; exact bk_ BK143.out) hb); replace HB := bS_ hb; (try clear hb); (try clear hb2); (try clear hk); (try clear hi); obtain ⟨hcz20_0, hcz20_1, hcz20_2, hfz20_0, hfz20_1, hfz20_2⟩ := b6_ BK143.out; have p146 : 0 ≤ (t144 : Int) := dt_; have q146 : t144 < (((rd_T79 l0_0 x17_1).f2).length : Int) := dt_; obtain ⟨ad146, e146, hx146_0, hx146_1, hx146_2⟩ := at_T72 HR142_2.out t144 p146 q146; cases e146; replace hx146_0 := cB_ hx146_0; replace hx146_1 := cB_ hx146_1; replace hx146_2 := cB_ hx146_2; replace p146 := eq_true p146; replace q146 := eq_true q146))
   go_roundg k1
   case measure => have := HK1.out; omega
   case rel => exact ⟨(wrap64 (x5_1 + ((rd_T72 ((rd_T79 l0_0 x17_1).f2) t144).f1))), (wrap64 (x17_1 + 1)), qz5, qz5, H', ⟨by have := HK1.out; omega⟩, ⟨bk_ BK140.out⟩, ⟨qz1⟩⟩
   }
   {
   exact an_ c15 H
   }
   }
   {
   exact an_ c14 H
   }
   }
   {
   replace c13 := Bool.eq_false_iff.mpr c13
   subst c13
   rw [if_neg (show ¬ (false = true) by decide)] at H
   have H' := aM H
   clear H
   have p142 : 0 ≤ (x17_1 : Int) := dt_
   have q142 : x17_1 < (l0_0.length : Int) := dt_
   obtain ⟨ad142, A142_2, c142_2, e142, hx142_0, hx142_1, hx142_2, hl142_2, hi142_2⟩ := at_T79 HR0_0.out x17_1 p142 q142
   cases e142
   replace hx142_0 := cB_ hx142_0
   replace hx142_1 := cB_ hx142_1
   replace hx142_2 := cB_ hx142_2
   have HR142_2 := aM hi142_2
   have HC142_2 := aM hl142_2
   clear hi142_2 hl142_2
   replace p142 := eq_true p142
   replace q142 := eq_true q142
   go_wp2_with (first | ((with_reducible refine gate_dst (N := 7) rfl ?_); refine bx_ 7 #[.int .i64 0, .int .i64 0, .slice none 0 0] 79 ?_; intro gb143 hg w21 hbox hb; have BK143 := aM (hbox); have GW143 := aM (bz_ w hg qz1); have GE143 := GW143; replace HB := bS_ hb; obtain ⟨NB140_143, NB143_140⟩ := nb_ hg (bk_ BK140.out); replace BK140 := bB_ BK140 hb; clear hb hbox hg; have hnb22 := NB143_140.out; have hnc22 := NB140_143.out; obtain ⟨hcz23_0, hcz23_1, hcz23_2, hfz23_0, hfz23_1, hfz23_2⟩ := b6_ BK143.out) | ((with_reducible refine gate_callee (f := 67) rfl ?_); refine goesL_ (some 24) rfl rfl Try.func67 (by kernel_rfl) rfl #[.agg #[.int .i64 ((rd_T79 l0_0 x17_1).f0), .int .i64 ((rd_T79 l0_0 x17_1).f1), .slice A142_2 ((rd_T79 l0_0 x17_1).f2).length c142_2], .int .i64 a1] rfl qz4 ?_; (with_reducible refine (impl_stackAt.calls k1 ((rd_T79 l0_0 x17_1).f0) ((rd_T79 l0_0 x17_1).f1) _ _ ((rd_T79 l0_0 x17_1).f2) a1 t144 false _ ?side1 ?side2 A12.out).mono ?_); (case side1 => exact Kd.C_below HR142_2.out qz1); (case side2 => exact HC142_2.out); rintro e w24 ⟨rfl, hb⟩; refine ⟨_, rfl, ?_⟩; replace BK140 := aM (blk_below (g := gb140) (o := .cells #[.slice (some ad142) l0_0.length c0_0] 26 (0, 0)) (bk2_ BK140.out) hb); replace BK143 := aM (blk_below (g := gb143) (o := .cells #[.int .i64 ((rd_T79 l0_0 x17_1).f0), .int .i64 ((rd_T79 l0_0 x17_1).f1), .slice A142_2 ((rd_T79 l0_0 x17_1).f2).length c142_2] 79 (0, 0)) (by (with_reducible repeat (first | refine blk_drewN ?_ _ | refine blk_drew ?_ | refine blk_alloc ?_ _)); refine blk_put (cs := #[.int .i64 ((rd_T79 l0_0 x17_1).f0), .int .i64 ((rd_T79 l0_0 x17_1).f1), .slice none 0 0]) ?_ 2 _ rfl; (with_reducible repeat (first | refine blk_drewN ?_ _ | refine blk_drew ?_ | refine blk_alloc ?_ _)); refine blk_put (cs := #[.int .i64 ((rd_T79 l0_0 x17_1).f0), .int .i64 0, .slice none 0 0]) ?_ 1 _ rfl; (with_reducible repeat (first | refine blk_drewN ?_ _ | refine blk_drew ?_ | refine blk_alloc ?_ _)); refine blk_put (cs := #[.int .i64 0, .int .i64 0, .slice none 0 0]) ?_ 0 _ rfl; exact bk_ BK143.out) hb); replace HB := bS_ hb; (try clear hb); (try clear hb2); (try clear hk); (try clear hi)))
   go_roundg k1
   case measure => have := HK1.out; omega
   case rel => exact ⟨(x5_1), (wrap64 (x17_1 + 1)), qz5, qz5, H', ⟨by have := HK1.out; omega⟩, ⟨bk_ BK140.out⟩, ⟨qz1⟩⟩
   }
   }
   {
   exact an_ c11 H
   }
   }
   {
   exact an_ c10 H
   }
   }
   {
   rw [if_neg c9] at H
   have c9b0 := decide_eq_false c9
   clear c9
   obtain rfl := Option.some.inj H
   simp only [Option.some.injEq, Prod.mk.injEq] at H
   obtain ⟨rfl⟩ := H
   go_wp2
   go_ret
   exact ⟨qzw, qz1⟩
   }
 }
 {
 replace c4 := Bool.eq_false_iff.mpr c4
 subst c4
 rw [if_neg (show ¬ (false = true) by decide)] at H
 obtain rfl := Option.some.inj H
 simp only [Option.some.injEq, Prod.mk.injEq] at H
 obtain ⟨rfl⟩ := H
 go_enter Try.func23, Try.ntmps23
 go_wp2_with (first | ((with_reducible refine gate_dst (N := 2) rfl ?_); refine bx_ 2 #[.slice A0_0 l0_0.length c0_0] 26 ?_; intro gb140 hg w25 hbox hb; have BK140 := aM (hbox); have GW140 := aM (bz_ w hg qz1); have GE140 := GW140; replace HB := bS_ hb; clear hb hbox hg; obtain ⟨hcz26_0, hfz26_0⟩ := bf_ BK140.out) | ((with_reducible refine gate_callee (f := 21) rfl ?_); refine goesL_ (some 11) rfl rfl Try.func21 (by kernel_rfl) rfl #[.agg #[.slice A0_0 l0_0.length c0_0]] rfl qz4 ?_; (with_reducible refine (impl_StockOk.calls k _ _ l0_0 false _ ?side1 ?side2 A3.out).mono ?_); (case side1 => exact qz6); (case side2 => exact HC0_0.out); rintro e w27 ⟨rfl, hb⟩; refine ⟨_, rfl, ?_⟩; replace BK140 := bB_ BK140 hb; replace HB := bS_ hb; (try clear hb); (try clear hb2); (try clear hk); (try clear hi)))
 go_ret
 exact ⟨qzw, qz1⟩

 }
/-- A state of type 122 at block g of W; what its slices lead to came in by w0. -/
def IsS122 (w0 W : World) (g : Nat) (f0 : List Int) (f1 : Int) (f2 : Int) : Prop := ∃ A0 c0, W.heap[g]? = some (.cells #[.slice A0 f0.length c0, .int .i64 f1, .int .i64 f2] 122 (0, 0)) ∧ w0.heap.size ≤ g ∧ Kd.C (Kd.int .u8) w0 A0 f0.length f0
theorem IsS122.grown {w0 W : World} {g : Nat} {f0 : List Int} {f1 : Int} {f2 : Int} {W1 : World} {row : Option Nat} (h : IsS122 w0 W g f0 f1 f2) (hw : W.grownBy W1 row) (hne : some g ≠ row) : IsS122 w0 W1 g f0 f1 f2 := by
 obtain ⟨A0, c0, hb, hg, hr0⟩ := h
 exact ⟨A0, c0, blk_grown hb hw hne, hg, hr0⟩
theorem IsS122.own_neN {w0 W : World} {g : Nat} {f0 : List Int} {f1 : Int} {f2 : Int} {α : Type} {d : Kd α} {e : Nat} {base : Nat} {ok : Nat → Prop} {v : Value} {xs : List α} (h : IsS122 w0 W g f0 f1 f2) (ho : Kd.N d e W base ok v xs) (ht : e ≠ 122) : some g ≠ v.ownBlock := by
 obtain ⟨A0, c0, hb, hg, hr0⟩ := h
 exact Kd.N_ne ho hb ht
theorem IsS122.fresh {w0 W : World} {g : Nat} {f0 : List Int} {f1 : Int} {f2 : Int} (h : IsS122 w0 W g f0 f1 f2) : ∀ k, W.heap.size ≤ k → k ≠ g := by
 obtain ⟨A0, c0, hb, hg, hr0⟩ := h
 exact Kd.freshB hb
theorem IsS122.kept {w0 W : World} {g : Nat} {f0 : List Int} {f1 : Int} {f2 : Int} {W1 : World} {S : Nat → Prop} (h : IsS122 w0 W g f0 f1 f2) (hk : Kept W W1 S) (hne : ¬ S g) : IsS122 w0 W1 g f0 f1 f2 := by
 obtain ⟨A0, c0, hb, hg, hr0⟩ := h
 exact ⟨A0, c0, blk_kept hb hk hne, hg, hr0⟩
theorem IsS122.below {w0 W : World} {g : Nat} {f0 : List Int} {f1 : Int} {f2 : Int} {W1 : World} (h : IsS122 w0 W g f0 f1 f2) (hw : Below W.heap.size W W1) : IsS122 w0 W1 g f0 f1 f2 := h.grown (grown_of_below hw none) (by simp)
theorem IsS122.alloc {w0 W : World} {g : Nat} {f0 : List Int} {f1 : Int} {f2 : Int} (h : IsS122 w0 W g f0 f1 f2) (o : Obj) : IsS122 w0 (W.alloc o) g f0 f1 f2 := h.below (below_alloc (Below.refl _ _) o)
theorem IsS122.drewN {w0 W : World} {g : Nat} {f0 : List Int} {f1 : Int} {f2 : Int} (h : IsS122 w0 W g f0 f1 f2) (m : Nat) : IsS122 w0 (W.drewN m) g f0 f1 f2 := h
theorem IsS122.drew {w0 W : World} {g : Nat} {f0 : List Int} {f1 : Int} {f2 : Int} (h : IsS122 w0 W g f0 f1 f2) : IsS122 w0 W.drew g f0 f1 f2 := h
theorem IsS122.at_ {w0 W : World} {g : Nat} {f0 : List Int} {f1 : Int} {f2 : Int} {w' : World} {m : Nat} (hq : W.drewN m = w') (h : IsS122 w0 W g f0 f1 f2) : IsS122 w0 w' g f0 f1 f2 := by subst hq; exact IsS122.drewN h m
theorem IsS122.apart {w0 W : World} {g : Nat} {f0 : List Int} {f1 : Int} {f2 : Int} {α : Type} {d : Kd α} {e : Nat} {base : Nat} {ok : Nat → Prop} {v : Value} {xs : List α} (h : IsS122 w0 W g f0 f1 f2) (ho : d.R e W base ok v xs) (ht : ∀ q, q ∈ e :: d.E → q ≠ 122) : d.R e W base (fun k => ok k ∧ k ≠ g) v xs := by
 obtain ⟨A0, c0, hb, hg, hr0⟩ := h
 exact Kd.R_types ho hb ht
theorem IsS122.own_ne {w0 W : World} {g : Nat} {f0 : List Int} {f1 : Int} {f2 : Int} {α : Type} {d : Kd α} {e : Nat} {base : Nat} {ok : Nat → Prop} {v : Value} {xs : List α} (h : IsS122 w0 W g f0 f1 f2) (ho : d.R e W base ok v xs) (ht : e ≠ 122) : some g ≠ v.ownBlock := by
 obtain ⟨A0, c0, hb, hg, hr0⟩ := h
 exact Kd.R_ne ho hb ht
theorem IsS122.apartQ {w0 W : World} {g : Nat} {f0 : List Int} {f1 : Int} {f2 : Int} {α : Type} {d : Kd α} {e : Nat} {base : Nat} {ok : Nat → Prop} {v : Value} {xs : List α} (h : IsS122 w0 W g f0 f1 f2) (ho : d.Q e W base ok v xs) (ht : ∀ q, q ∈ e :: d.E → q ≠ 122) : d.Q e W base (fun k => ok k ∧ k ≠ g) v xs := by
 obtain ⟨A0, c0, hb, hg, hr0⟩ := h
 exact Kd.Q_types ho hb ht
theorem IsS122.own_neQ {w0 W : World} {g : Nat} {f0 : List Int} {f1 : Int} {f2 : Int} {α : Type} {d : Kd α} {e : Nat} {base : Nat} {ok : Nat → Prop} {v : Value} {xs : List α} (h : IsS122 w0 W g f0 f1 f2) (ho : d.Q e W base ok v xs) (ht : e ≠ 122) : some g ≠ v.ownBlock := by
 obtain ⟨A0, c0, hb, hg, hr0⟩ := h
 exact Kd.Q_ne ho hb ht
theorem IsS122.apartS {w0 W : World} {g : Nat} {f0 : List Int} {f1 : Int} {f2 : Int} {α : Type} {d : Kd α} {e : Nat} {base : Nat} {ok : Nat → Prop} {v : Value} {xs : List α} (h : IsS122 w0 W g f0 f1 f2) (ho : d.S e W base ok v xs) (ht : ∀ q, q ∈ e :: d.E → q ≠ 122) : d.S e W base (fun k => ok k ∧ k ≠ g) v xs := by
 obtain ⟨A0, c0, hb, hg, hr0⟩ := h
 exact Kd.S_types ho hb ht
theorem IsS122.own_neS {w0 W : World} {g : Nat} {f0 : List Int} {f1 : Int} {f2 : Int} {α : Type} {d : Kd α} {e : Nat} {base : Nat} {ok : Nat → Prop} {v : Value} {xs : List α} (h : IsS122 w0 W g f0 f1 f2) (ho : d.S e W base ok v xs) (ht : e ≠ 122) : some g ≠ v.ownBlock := by
 obtain ⟨A0, c0, hb, hg, hr0⟩ := h
 exact Kd.S_ne ho hb ht
theorem IsS122.lt {w0 W : World} {g : Nat} {f0 : List Int} {f1 : Int} {f2 : Int} (h : IsS122 w0 W g f0 f1 f2) : g < W.heap.size := by
 obtain ⟨A0, c0, hb, hg, hr0⟩ := h
 exact blk_lt hb
theorem IsS122.ge {w0 W : World} {g : Nat} {f0 : List Int} {f1 : Int} {f2 : Int} (h : IsS122 w0 W g f0 f1 f2) : w0.heap.size ≤ g := by
 obtain ⟨A0, c0, hb, hg, hr0⟩ := h
 exact hg
theorem IsS122.ne_blk {w0 W : World} {g : Nat} {f0 : List Int} {f1 : Int} {f2 : Int} {a : Nat} {cs : Array Value} {t : TypeId} {fr : Nat × Nat} (h : IsS122 w0 W g f0 f1 f2) (hb2 : W.heap[a]? = some (.cells cs t fr)) (ht : t ≠ 122) : g ≠ a := by
 obtain ⟨A0, c0, hb, hg, hr0⟩ := h
 rintro rfl
 rw [hb] at hb2
 injection hb2 with hb2
 injection hb2 with _ ht2
 exact ht ht2.symm
theorem IsS122.far {w0 W : World} {g : Nat} {f0 : List Int} {f1 : Int} {f2 : Int} {p : Addr} (h : IsS122 w0 W g f0 f1 f2) (hne : g ≠ p.block) (u : Value) : IsS122 w0 (W.setCell p u) g f0 f1 f2 := by
 obtain ⟨A0, c0, hb, hg, hr0⟩ := h
 exact ⟨A0, c0, blk_far hb hne u, hg, hr0⟩
theorem cellS122_0 {W : World} {g : Nat} {A0 : Option Addr} {c0 : Nat} {f0 : List Int} {f1 : Int} {f2 : Int} (h : W.heap[g]? = some (.cells #[.slice A0 f0.length c0, .int .i64 f1, .int .i64 f2] 122 (0, 0))) : W.cell? ⟨g, 0, none⟩ = some (.slice A0 f0.length c0) := (blk_cell h 0).trans rfl
theorem cellS122_1 {W : World} {g : Nat} {A0 : Option Addr} {c0 : Nat} {f0 : List Int} {f1 : Int} {f2 : Int} (h : W.heap[g]? = some (.cells #[.slice A0 f0.length c0, .int .i64 f1, .int .i64 f2] 122 (0, 0))) : W.cell? ⟨g, 1, none⟩ = some (.int .i64 f1) := (blk_cell h 1).trans rfl
theorem IsS122.set_1 {w0 W : World} {g : Nat} {f0 : List Int} {f1 : Int} {f2 : Int} (h : IsS122 w0 W g f0 f1 f2) (x : Int) : IsS122 w0 (W.setCell ⟨g, 1, none⟩ (.int .i64 x)) g f0 x f2 := by
 obtain ⟨A0, c0, hb, hg, hr0⟩ := h
 exact ⟨A0, c0, by simpa using blk_set hb 1 (.int .i64 x), hg, hr0⟩
theorem cellS122_2 {W : World} {g : Nat} {A0 : Option Addr} {c0 : Nat} {f0 : List Int} {f1 : Int} {f2 : Int} (h : W.heap[g]? = some (.cells #[.slice A0 f0.length c0, .int .i64 f1, .int .i64 f2] 122 (0, 0))) : W.cell? ⟨g, 2, none⟩ = some (.int .i64 f2) := (blk_cell h 2).trans rfl
theorem IsS122.set_2 {w0 W : World} {g : Nat} {f0 : List Int} {f1 : Int} {f2 : Int} (h : IsS122 w0 W g f0 f1 f2) (x : Int) : IsS122 w0 (W.setCell ⟨g, 2, none⟩ (.int .i64 x)) g f0 f1 x := by
 obtain ⟨A0, c0, hb, hg, hr0⟩ := h
 exact ⟨A0, c0, by simpa using blk_set hb 2 (.int .i64 x), hg, hr0⟩
theorem IsS122.new (w0 W : World) (A0 : Option Addr) (c0 : Nat) (f0 : List Int) (f1 : Int) (f2 : Int) (hB : Below w0.heap.size w0 W) (hr0 : Kd.C (Kd.int .u8) w0 A0 f0.length f0) : IsS122 w0 (W.alloc (.cells #[.slice A0 f0.length c0, .int .i64 f1, .int .i64 f2] 122)) W.heap.size f0 f1 f2 := ⟨A0, c0, by simpa using heap_alloc_new W _, hB.size, hr0⟩

/-! ### spec_l1New: function 75 -/
def spec_l1New.l0 : Nat → List Int → Int → Int → Option (List Int × Int × Int)
 | 0, _, _, _ => none
 | k + 1, x0, x3, x4 => if x4 < (x0.length : Int) then (if x4 < 4000 then (if 0 ≤ x4 then (spec_l1New.l0 k x0 (Go.bits .and .i64 (wrap64 ((wrap64 ((wrap64 (x3 * 137)) + (wrap64 (rd x0 x4)))) + 11)) 1073741823) (wrap64 (x4 + 1))) else (none)) else (some (x0, 0, x3))) else (some (x0, 0, x3))
def spec_l1New.f (k : Nat) (l0 : List Int) : Option (List Int × Int × Int) := spec_l1New.l0 k l0 (wrap64 (275275 + (l0.length : Int))) 0
theorem spec_l1New.mono_l : ∀ k, (∀ y0 y1 y2, LeO (spec_l1New.l0 k y0 y1 y2) (spec_l1New.l0 (k + 1) y0 y1 y2))
 | 0 => fun _ _ _ r h => by simp [spec_l1New.l0] at h
 | k + 1 => by
  have ih0 := spec_l1New.mono_l k
  {
  intro y0 y1 y2
  unfold spec_l1New.l0
  exact qL
  }
theorem spec_l1New.mono : ∀ a0 k, LeO (spec_l1New.f k a0) (spec_l1New.f (k + 1) a0) := by
 intro a0 k
 have ih0 := spec_l1New.mono_l k
 unfold spec_l1New.f
 exact qL
set_option maxHeartbeats 8000000 in
set_option maxRecDepth 100000 in
theorem spec_l1New.calls (k : Nat) (A0 : Option Addr) (c0 : Nat) (l0 : List Int) (r1 : List Int) (r2 : Int) (r3 : Int) (w0 w : World) (hB : Below w0.heap.size w0 w) (hr0 : Kd.C (Kd.int .u8) w0 A0 l0.length l0) (hc0 : l0.length ≤ c0) (h : spec_l1New.f k l0 = some (r1, r2, r3)) :
  Calls Try.prog 75 #[.slice A0 l0.length c0] w fun e w' => ∃ g_ : Nat, e = .returned (.pointer (some ⟨g_, 0, none⟩)) ∧ IsS122 w0 w' g_ r1 r2 r3 ∧ Below w0.heap.size w0 w' ∧ Below w.heap.size w w' := by
 have hu122 := Try.underlying122
 have HR0 := aM hr0
 have HC0 := aM hc0
 clear hr0 hc0
 have HBW := aM (Below.refl w.heap.size w)
 have HW0 := aM hB.size
 have HB := aM hB
 clear hB
 have H : (spec_l1New.l0 k l0 (wrap64 (275275 + (l0.length : Int))) 0) = some (r1, r2, r3) := h
 clear h
 have H' := aM H
 clear H
 go_enter Try.func75, Try.ntmps75
 go_wp2
 go_loopg [3, 4] k (fun kq v3 v4 w' => ∃ (x3_1 : Int) (x4_1 : Int), v3 = .int .i64 x3_1 ∧ v4 = .int .i64 x4_1 ∧ Aside0 (spec_l1New.l0 kq l0 x3_1 x4_1 = some (r1, r2, r3)) ∧ Aside0 (kq ≤ k) ∧ Aside0 (Below w.heap.size w w') ∧ Aside0 (Below w0.heap.size w0 w'))
 case atStart => exact ⟨(wrap64 (275275 + (l0.length : Int))), (0), qz5, qz5, H', ⟨Nat.le_refl _⟩, ⟨qz12⟩, ⟨qz1⟩⟩
 case round =>
  clear H'
  obtain ⟨x3_1, x4_1, rfl, rfl, HA, HK1, HBW, HB⟩ := hrel
  cases gk with
  | zero => exact absurd HA.out (by simp [spec_l1New.l0])
  | succ k1 =>
   have H := HA.out
   clear HA
   simp only [spec_l1New.l0] at H
   by_cases c2 : x4_1 < (l0.length : Int)
   {
   rw [if_pos c2] at H
   have c2b0 := decide_eq_true c2
   clear c2
   by_cases c3 : x4_1 < 4000
   {
   rw [if_pos c3] at H
   have c3b0 := decide_eq_true c3
   clear c3
   by_cases c4 : 0 ≤ x4_1
   {
   rw [if_pos c4] at H
   have c4b0 := decide_eq_true c4
   clear c4
   have H' := aM H
   clear H
   have p147 : 0 ≤ (x4_1 : Int) := dt_
   have q147 : x4_1 < (l0.length : Int) := dt_
   obtain ⟨ad147, e147, hx147_0⟩ := Kd.at_int HR0.out x4_1 p147 q147
   cases e147
   replace hx147_0 := cB_ hx147_0
   replace p147 := eq_true p147
   replace q147 := eq_true q147
   go_wp2
   go_roundg k1
   case measure => have := HK1.out; omega
   case rel => exact ⟨(Go.bits .and .i64 (wrap64 ((wrap64 ((wrap64 (x3_1 * 137)) + (wrap64 (rd l0 x4_1)))) + 11)) 1073741823), (wrap64 (x4_1 + 1)), qz5, qz5, H', ⟨by have := HK1.out; omega⟩, ⟨qz12⟩, ⟨qz1⟩⟩
   }
   {
   exact an_ c4 H
   }
   }
   {
   rw [if_neg c3] at H
   have c3b0 := decide_eq_false c3
   clear c3
   simp only [Option.some.injEq, Prod.mk.injEq] at H
   obtain ⟨rfl, rfl, rfl⟩ := H
   go_wp2_with (first | ((with_reducible refine gate_dst (N := 31) rfl ?_); refine bx_ 31 #[.slice A0 l0.length c0, .int .i64 0, .int .i64 x3_1] 122 ?_; intro gb148 hg w5 hbox hb; replace HB := bS_ hb; have BK148 := aM (hbox); have GW148 := aM (bz_ w hg qz12); have GE148 := aM ((Nat.le_trans HW0.out (by rw [hg]; exact (below_size qz12) : w.heap.size ≤ gb148) : w0.heap.size ≤ gb148)); replace HBW := aM (below_step HBW.out hb); clear hb hbox hg))
   go_ret
   exact ⟨_, rfl, (show IsS122 w0 _ gb148 l0 0 x3_1 from ⟨_, _, by (with_reducible repeat (first | refine blk_drewN ?_ _ | refine blk_drew ?_ | refine blk_alloc ?_ _)); exact BK148.out, GE148.out, HR0.out⟩), qz1, qz12⟩
   }
   }
   {
   rw [if_neg c2] at H
   have c2b0 := decide_eq_false c2
   clear c2
   simp only [Option.some.injEq, Prod.mk.injEq] at H
   obtain ⟨rfl, rfl, rfl⟩ := H
   go_wp2_with (first | ((with_reducible refine gate_dst (N := 31) rfl ?_); refine bx_ 31 #[.slice A0 l0.length c0, .int .i64 0, .int .i64 x3_1] 122 ?_; intro gb149 hg w6 hbox hb; replace HB := bS_ hb; have BK149 := aM (hbox); have GW149 := aM (bz_ w hg qz12); have GE149 := aM ((Nat.le_trans HW0.out (by rw [hg]; exact (below_size qz12) : w.heap.size ≤ gb149) : w0.heap.size ≤ gb149)); replace HBW := aM (below_step HBW.out hb); clear hb hbox hg))
   go_ret
   exact ⟨_, rfl, (show IsS122 w0 _ gb149 l0 0 x3_1 from ⟨_, _, by (with_reducible repeat (first | refine blk_drewN ?_ _ | refine blk_drew ?_ | refine blk_alloc ?_ _)); exact BK149.out, GE149.out, HR0.out⟩), qz1, qz12⟩

   }
/-! ### spec_l1Byte: function 109 -/
def spec_l1Byte.f (s0_0 : List Int) (s0_1 : Int) (s0_2 : Int) : Option (Int × Int × Int) := if s0_1 < (s0_0.length : Int) then (if 0 ≤ s0_1 then (some (Go.bits .and .i64 (wrap64 ((Go.bits .and .i64 (Go.bits .xor .i64 ((wrap64 ((wrap64 (s0_2 * 6364136223846793005)) + 1442695040888963407)) / 8589934592) ((wrap64 ((wrap64 (s0_2 * 6364136223846793005)) + 1442695040888963407)) / 140737488355328)) 255) + (wrap64 (rd s0_0 s0_1)))) 255, wrap64 (s0_1 + 1), wrap64 ((wrap64 (s0_2 * 6364136223846793005)) + 1442695040888963407))) else (none)) else (some (Go.bits .and .i64 (Go.bits .xor .i64 ((wrap64 ((wrap64 (s0_2 * 6364136223846793005)) + 1442695040888963407)) / 8589934592) ((wrap64 ((wrap64 (s0_2 * 6364136223846793005)) + 1442695040888963407)) / 140737488355328)) 255, s0_1, wrap64 ((wrap64 (s0_2 * 6364136223846793005)) + 1442695040888963407)))
set_option maxHeartbeats 8000000 in
set_option maxRecDepth 100000 in
theorem spec_l1Byte.calls (g : Nat) (s0_0 : List Int) (s0_1 : Int) (s0_2 : Int) (r1 : Int) (r2 : Int) (r3 : Int) (w0 w : World) (hI : IsS122 w0 w g s0_0 s0_1 s0_2) (hB : Below w0.heap.size w0 w) (h : spec_l1Byte.f s0_0 s0_1 s0_2 = some (r1, r2, r3)) :
  Calls Try.prog 109 #[.pointer (some ⟨g, 0, none⟩)] w fun e w' => e = .returned (.int .i64 r1) ∧ IsS122 w0 w' g s0_0 r2 r3 ∧ Below w0.heap.size w0 w' ∧ KeepBut w w' g none := by
 have HI0 := aM hI
 have HK := aM (KeepBut.refl w g none)
 have HL := aM hB.size
 clear hI
 have HW0 := aM hB.size
 have HB := aM hB
 clear hB
 have H : (if s0_1 < (s0_0.length : Int) then (if 0 ≤ s0_1 then (some (Go.bits .and .i64 (wrap64 ((Go.bits .and .i64 (Go.bits .xor .i64 ((wrap64 ((wrap64 (s0_2 * 6364136223846793005)) + 1442695040888963407)) / 8589934592) ((wrap64 ((wrap64 (s0_2 * 6364136223846793005)) + 1442695040888963407)) / 140737488355328)) 255) + (wrap64 (rd s0_0 s0_1)))) 255, wrap64 (s0_1 + 1), wrap64 ((wrap64 (s0_2 * 6364136223846793005)) + 1442695040888963407))) else (none)) else (some (Go.bits .and .i64 (Go.bits .xor .i64 ((wrap64 ((wrap64 (s0_2 * 6364136223846793005)) + 1442695040888963407)) / 8589934592) ((wrap64 ((wrap64 (s0_2 * 6364136223846793005)) + 1442695040888963407)) / 140737488355328)) 255, s0_1, wrap64 ((wrap64 (s0_2 * 6364136223846793005)) + 1442695040888963407)))) = some (r1, r2, r3) := h
 clear h
 by_cases c2 : s0_1 < (s0_0.length : Int)
 {
 rw [if_pos c2] at H
 have c2b0 := decide_eq_true c2
 clear c2
 by_cases c3 : 0 ≤ s0_1
 {
 rw [if_pos c3] at H
 have c3b0 := decide_eq_true c3
 clear c3
 simp only [Option.some.injEq, Prod.mk.injEq] at H
 obtain ⟨rfl, rfl, rfl⟩ := H
 obtain ⟨ASz4_0, cSz4_0, HGz4, hgz4, HSz4_0⟩ := HI0.out
 have hcz4_0 := cellS122_0 HGz4
 have hcz4_1 := cellS122_1 HGz4
 have hcz4_2 := cellS122_2 HGz4
 have hfz4_1 := blk_frozen HGz4 1
 have hfz4_2 := blk_frozen HGz4 2
 clear HGz4 hgz4
 have p150 : 0 ≤ (s0_1 : Int) := dt_
 have q150 : s0_1 < (s0_0.length : Int) := dt_
 obtain ⟨ad150, e150, hx150_0⟩ := Kd.at_int HSz4_0 s0_1 p150 q150
 cases e150
 have hn150_0 : ad150.block ≠ g := Nat.ne_of_lt (Nat.lt_of_lt_of_le (by have := World.block_lt_of_cell? _ _ hx150_0; first | rwa [add_block] at this | exact this) (IsS122.ge HI0.out))
 replace hx150_0 := cB_ hx150_0
 replace hx150_0 := (cell_far (p := ⟨g, 2, none⟩) (by first | (rw [add_block]; exact hn150_0) | (show (Addr.add _ _).block ≠ _; rw [add_block]; exact hn150_0) | exact hn150_0) (.int .i64 (wrap64 ((wrap64 (s0_2 * 6364136223846793005)) + 1442695040888963407)))).trans hx150_0
 (try have hy150_0 := fun (n_ : Nat) => (show (((w.drewN n_).setCell ⟨g, 2, none⟩ (.int .i64 (wrap64 ((wrap64 (s0_2 * 6364136223846793005)) + 1442695040888963407))))).cell? _ = some _ from hx150_0))
 clear hn150_0
 replace p150 := eq_true p150
 replace q150 := eq_true q150
 go_enter Try.func109, Try.ntmps109
 go_wp2
 repeat (go_quiet (fail); try go_wp2)
 go_ret
 exact ⟨qzw, qz3, qz1, qz2⟩
 }
 {
 exact an_ c3 H
 }
 }
 {
 rw [if_neg c2] at H
 have c2b0 := decide_eq_false c2
 clear c2
 simp only [Option.some.injEq, Prod.mk.injEq] at H
 obtain ⟨rfl, rfl, rfl⟩ := H
 obtain ⟨ASz5_0, cSz5_0, HGz5, hgz5, HSz5_0⟩ := HI0.out
 have hcz5_0 := cellS122_0 HGz5
 have hcz5_1 := cellS122_1 HGz5
 have hcz5_2 := cellS122_2 HGz5
 have hfz5_1 := blk_frozen HGz5 1
 have hfz5_2 := blk_frozen HGz5 2
 clear HGz5 hgz5
 go_enter Try.func109, Try.ntmps109
 go_wp2
 repeat (go_quiet (fail); try go_wp2)
 go_ret
 exact ⟨qzw, qz3, qz1, qz2⟩

 }
/-! ### spec_l1Below: function 105 -/
def spec_l1Below.f (s0_0 : List Int) (s0_1 : Int) (s0_2 : Int) (a1 : Int) : Option (Int × Int × Int) := if a1 ≤ 0 then (some (0, s0_1, s0_2)) else (if a1 ≤ 256 then ((spec_l1Byte.f s0_0 s0_1 s0_2).bind fun bt151 => (if a1 = 0 then (none) else (some (Int.tmod bt151.1 a1, bt151.2.1, bt151.2.2)))) else ((spec_l1Byte.f s0_0 s0_1 s0_2).bind fun bt154 => ((spec_l1Byte.f s0_0 bt154.2.1 bt154.2.2).bind fun bt157 => ((spec_l1Byte.f s0_0 bt157.2.1 bt157.2.2).bind fun bt160 => (if a1 = 0 then (none) else (some (Int.tmod (wrap64 ((wrap64 ((wrap64 (bt154.1 * 65536)) + (wrap64 (bt157.1 * 256)))) + bt160.1)) a1, bt160.2.1, bt160.2.2)))))))
set_option maxHeartbeats 8000000 in
set_option maxRecDepth 100000 in
theorem spec_l1Below.calls (g : Nat) (s0_0 : List Int) (s0_1 : Int) (s0_2 : Int) (a1 : Int) (r1 : Int) (r2 : Int) (r3 : Int) (w0 w : World) (hI : IsS122 w0 w g s0_0 s0_1 s0_2) (hB : Below w0.heap.size w0 w) (h : spec_l1Below.f s0_0 s0_1 s0_2 a1 = some (r1, r2, r3)) :
  Calls Try.prog 105 #[.pointer (some ⟨g, 0, none⟩), .int .i64 a1] w fun e w' => e = .returned (.int .i64 r1) ∧ IsS122 w0 w' g s0_0 r2 r3 ∧ Below w0.heap.size w0 w' ∧ KeepBut w w' g none := by
 have HI0 := aM hI
 have HK := aM (KeepBut.refl w g none)
 have HL := aM hB.size
 clear hI
 have HW0 := aM hB.size
 have HB := aM hB
 clear hB
 have H : (if a1 ≤ 0 then (some (0, s0_1, s0_2)) else (if a1 ≤ 256 then ((spec_l1Byte.f s0_0 s0_1 s0_2).bind fun bt151 => (if a1 = 0 then (none) else (some (Int.tmod bt151.1 a1, bt151.2.1, bt151.2.2)))) else ((spec_l1Byte.f s0_0 s0_1 s0_2).bind fun bt154 => ((spec_l1Byte.f s0_0 bt154.2.1 bt154.2.2).bind fun bt157 => ((spec_l1Byte.f s0_0 bt157.2.1 bt157.2.2).bind fun bt160 => (if a1 = 0 then (none) else (some (Int.tmod (wrap64 ((wrap64 ((wrap64 (bt154.1 * 65536)) + (wrap64 (bt157.1 * 256)))) + bt160.1)) a1, bt160.2.1, bt160.2.2)))))))) = some (r1, r2, r3) := h
 clear h
 by_cases c3 : a1 ≤ 0
 {
 rw [if_pos c3] at H
 have c3b0 := decide_eq_true c3
 clear c3
 simp only [Option.some.injEq, Prod.mk.injEq] at H
 obtain ⟨rfl, rfl, rfl⟩ := H
 go_enter Try.func105, Try.ntmps105
 go_wp2
 go_ret
 exact ⟨qzw, qz3, qz1, qz2⟩
 }
 {
 rw [if_neg c3] at H
 have c3b0 := decide_eq_false c3
 clear c3
 by_cases c4 : a1 ≤ 256
 {
 rw [if_pos c4] at H
 have c4b0 := decide_eq_true c4
 clear c4
 replace H := Option.bind_eq_some_iff.mp H
 obtain ⟨⟨t151, t152, t153⟩, A50, H⟩ := H
 replace H : (if a1 = 0 then (none) else (some (Int.tmod t151 a1, t152, t153))) = some (r1, r2, r3) := H
 have A5 := aM A50
 clear A50
 by_cases c6 : a1 = 0
 {
 exact ap_ c6 H
 }
 {
 rw [if_neg c6] at H
 have c6b0 := beq_eq_false_iff_ne.mpr c6
 have c6b1 := bne_iff_ne.mpr c6
 simp only [Option.some.injEq, Prod.mk.injEq] at H
 obtain ⟨rfl, rfl, rfl⟩ := H
 go_enter Try.func105, Try.ntmps105
 go_wp2_with (first | ((with_reducible refine gate_callee (f := 109) rfl ?_); refine goesL_ (some 13) rfl rfl Try.func109 (by kernel_rfl) rfl #[.pointer (some ⟨g, 0, none⟩)] rfl qz4 ?_; (with_reducible refine (spec_l1Byte.calls g s0_0 s0_1 s0_2 t151 t152 t153 w0 _ ?side1 ?side2 A5.out).mono ?_); (case side1 => exact qz3); (case side2 => exact qz1); rintro e w7 ⟨rfl, hi, hb, hk⟩; refine ⟨_, rfl, ?_⟩; replace HK := aM (KeepBut.trans qz2 hk (.inl rfl)); replace HB := aM (hb); replace HI0 := aM (hi); (try clear hb); (try clear hb2); (try clear hk); (try clear hi)))
 go_ret
 exact ⟨qzw, qz3, qz1, qz2⟩
 }
 }
 {
 rw [if_neg c4] at H
 have c4b0 := decide_eq_false c4
 clear c4
 replace H := Option.bind_eq_some_iff.mp H
 obtain ⟨⟨t154, t155, t156⟩, A80, H⟩ := H
 replace H : ((spec_l1Byte.f s0_0 t155 t156).bind fun bt157 => ((spec_l1Byte.f s0_0 bt157.2.1 bt157.2.2).bind fun bt160 => (if a1 = 0 then (none) else (some (Int.tmod (wrap64 ((wrap64 ((wrap64 (t154 * 65536)) + (wrap64 (bt157.1 * 256)))) + bt160.1)) a1, bt160.2.1, bt160.2.2))))) = some (r1, r2, r3) := H
 have A8 := aM A80
 clear A80
 replace H := Option.bind_eq_some_iff.mp H
 obtain ⟨⟨t157, t158, t159⟩, A90, H⟩ := H
 replace H : ((spec_l1Byte.f s0_0 t158 t159).bind fun bt160 => (if a1 = 0 then (none) else (some (Int.tmod (wrap64 ((wrap64 ((wrap64 (t154 * 65536)) + (wrap64 (t157 * 256)))) + bt160.1)) a1, bt160.2.1, bt160.2.2)))) = some (r1, r2, r3) := H
 have A9 := aM A90
 clear A90
 replace H := Option.bind_eq_some_iff.mp H
 obtain ⟨⟨t160, t161, t162⟩, A100, H⟩ := H
 replace H : (if a1 = 0 then (none) else (some (Int.tmod (wrap64 ((wrap64 ((wrap64 (t154 * 65536)) + (wrap64 (t157 * 256)))) + t160)) a1, t161, t162))) = some (r1, r2, r3) := H
 have A10 := aM A100
 clear A100
 by_cases c11 : a1 = 0
 {
 exact ap_ c11 H
 }
 {
 rw [if_neg c11] at H
 have c11b0 := beq_eq_false_iff_ne.mpr c11
 have c11b1 := bne_iff_ne.mpr c11
 simp only [Option.some.injEq, Prod.mk.injEq] at H
 obtain ⟨rfl, rfl, rfl⟩ := H
 go_enter Try.func105, Try.ntmps105
 go_wp2_with (first | ((with_reducible refine gate_callee (f := 109) rfl ?_); refine goesL_ (some 17) rfl rfl Try.func109 (by kernel_rfl) rfl #[.pointer (some ⟨g, 0, none⟩)] rfl qz4 ?_; (with_reducible refine (spec_l1Byte.calls g s0_0 s0_1 s0_2 t154 t155 t156 w0 _ ?side1 ?side2 A8.out).mono ?_); (case side1 => exact qz3); (case side2 => exact qz1); rintro e w12 ⟨rfl, hi, hb, hk⟩; refine ⟨_, rfl, ?_⟩; replace HK := aM (KeepBut.trans qz2 hk (.inl rfl)); replace HB := aM (hb); replace HI0 := aM (hi); (try clear hb); (try clear hb2); (try clear hk); (try clear hi)) | ((with_reducible refine gate_callee (f := 109) rfl ?_); refine goesL_ (some 19) rfl rfl Try.func109 (by kernel_rfl) rfl #[.pointer (some ⟨g, 0, none⟩)] rfl qz4 ?_; (with_reducible refine (spec_l1Byte.calls g s0_0 t155 t156 t157 t158 t159 w0 _ ?side1 ?side2 A9.out).mono ?_); (case side1 => exact qz3); (case side2 => exact qz1); rintro e w13 ⟨rfl, hi, hb, hk⟩; refine ⟨_, rfl, ?_⟩; replace HK := aM (KeepBut.trans qz2 hk (.inl rfl)); replace HB := aM (hb); replace HI0 := aM (hi); (try clear hb); (try clear hb2); (try clear hk); (try clear hi)) | ((with_reducible refine gate_callee (f := 109) rfl ?_); refine goesL_ (some 21) rfl rfl Try.func109 (by kernel_rfl) rfl #[.pointer (some ⟨g, 0, none⟩)] rfl qz4 ?_; (with_reducible refine (spec_l1Byte.calls g s0_0 t158 t159 t160 t161 t162 w0 _ ?side1 ?side2 A10.out).mono ?_); (case side1 => exact qz3); (case side2 => exact qz1); rintro e w14 ⟨rfl, hi, hb, hk⟩; refine ⟨_, rfl, ?_⟩; replace HK := aM (KeepBut.trans qz2 hk (.inl rfl)); replace HB := aM (hb); replace HI0 := aM (hi); (try clear hb); (try clear hb2); (try clear hk); (try clear hi)))
 go_ret
 exact ⟨qzw, qz3, qz1, qz2⟩

 }
 }
 }
/-! ### spec_l1Int: function 92 -/
def spec_l1Int.f (s0_0 : List Int) (s0_1 : Int) (s0_2 : Int) (l1 : List Int) : Option (Int × Int × Int) := (spec_l1Below.f s0_0 s0_1 s0_2 (l1.length : Int)).bind fun bt163 => (if 0 ≤ bt163.1 then (if bt163.1 < (l1.length : Int) then (some (rd l1 bt163.1, bt163.2.1, bt163.2.2)) else (none)) else (none))
set_option maxHeartbeats 8000000 in
set_option maxRecDepth 100000 in
theorem spec_l1Int.calls (g : Nat) (s0_0 : List Int) (s0_1 : Int) (s0_2 : Int) (A1 : Option Addr) (c1 : Nat) (l1 : List Int) (r1 : Int) (r2 : Int) (r3 : Int) (w0 w : World) (hI : IsS122 w0 w g s0_0 s0_1 s0_2) (hB : Below w0.heap.size w0 w) (hr1 : Kd.C (Kd.int .i64) w A1 l1.length l1) (hc1 : l1.length ≤ c1) (hf1 : ∀ ad, A1 = some ad → 0 < l1.length → ad.block ≠ g) (h : spec_l1Int.f s0_0 s0_1 s0_2 l1 = some (r1, r2, r3)) :
  Calls Try.prog 92 #[.pointer (some ⟨g, 0, none⟩), .slice A1 l1.length c1] w fun e w' => e = .returned (.int .i64 r1) ∧ IsS122 w0 w' g s0_0 r2 r3 ∧ Below w0.heap.size w0 w' ∧ KeepBut w w' g none := by
 have HR1 := aM hr1
 have HC1 := aM hc1
 clear hr1 hc1
 have HI0 := aM hI
 have HK := aM (KeepBut.refl w g none)
 have HL := aM hB.size
 clear hI
 have HW0 := aM hB.size
 have HB := aM hB
 clear hB
 have H : ((spec_l1Below.f s0_0 s0_1 s0_2 (l1.length : Int)).bind fun bt163 => (if 0 ≤ bt163.1 then (if bt163.1 < (l1.length : Int) then (some (rd l1 bt163.1, bt163.2.1, bt163.2.2)) else (none)) else (none))) = some (r1, r2, r3) := h
 clear h
 replace H := Option.bind_eq_some_iff.mp H
 obtain ⟨⟨t163, t164, t165⟩, A30, H⟩ := H
 replace H : (if 0 ≤ t163 then (if t163 < (l1.length : Int) then (some (rd l1 t163, t164, t165)) else (none)) else (none)) = some (r1, r2, r3) := H
 have A3 := aM A30
 clear A30
 by_cases c4 : 0 ≤ t163
 {
 rw [if_pos c4] at H
 have c4b0 := decide_eq_true c4
 clear c4
 by_cases c5 : t163 < (l1.length : Int)
 {
 rw [if_pos c5] at H
 have c5b0 := decide_eq_true c5
 clear c5
 simp only [Option.some.injEq, Prod.mk.injEq] at H
 obtain ⟨rfl, rfl, rfl⟩ := H
 go_enter Try.func92, Try.ntmps92
 go_wp2_with (first | ((with_reducible refine gate_callee (f := 105) rfl ?_); refine goesL_ (some 9) rfl rfl Try.func105 (by kernel_rfl) rfl #[.pointer (some ⟨g, 0, none⟩), .int .i64 (l1.length : Int)] rfl qz4 ?_; (with_reducible refine (spec_l1Below.calls g s0_0 s0_1 s0_2 (l1.length : Int) t163 t164 t165 w0 _ ?side1 ?side2 A3.out).mono ?_); (case side1 => exact qz3); (case side2 => exact qz1); rintro e w6 ⟨rfl, hi, hb, hk⟩; refine ⟨_, rfl, ?_⟩; replace HK := aM (KeepBut.trans qz2 hk (.inl rfl)); replace HB := aM (hb); replace HI0 := aM (hi); (try clear hb); (try clear hb2); (try clear hk); (try clear hi); have p166 : 0 ≤ (t163 : Int) := dt_; have q166 : t163 < (l1.length : Int) := dt_; obtain ⟨ad166, e166, hx166_0⟩ := Kd.at_int HR1.out t163 p166 q166; cases e166; replace hx166_0 := keep_cell HK.out hx166_0 (by first | (rw [add_block]; exact hf1 _ rfl (by omega)) | exact hf1 _ rfl (by omega) | exact hf1 ad166 rfl (by omega)); replace p166 := eq_true p166; replace q166 := eq_true q166))
 go_ret
 exact ⟨qzw, qz3, qz1, qz2⟩
 }
 {
 exact an_ c5 H
 }
 }
 {
 exact an_ c4 H

 }
end Go.Proofs.Yteajnkondkfmgaa.PFnPicks
