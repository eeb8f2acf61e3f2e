-- Made by a program of this session out of the translation. Lean checks it.
import Derived.Test.YteajnkondkfmgaaPFnTakenx0
import Derived.Test.YteajnkondkfmgaaPFnTakenx12
import Derived.Test.YteajnkondkfmgaaPFnTakenx14
namespace Go.Proofs.Yteajnkondkfmgaa.PFnTaken
open Go.RowKit Go.Proofs.YteajnkondkfmgaaW.PrintWords Go.Proofs.YteajnkondkfmgaaW.PrintLast Go.Proofs.YteajnkondkfmgaaW.PrintMore
attribute [local go_sem] max2_int min2_int max_two min_two max_three min_three max_four min_four   -- for this text's walks alone
set_option linter.unusedVariables false
set_option linter.unusedSimpArgs false

/-! ### spec_l5Pod: function 93 -/
def spec_l5Pod.l0 : Nat → Int → Int → List (S79) → Option (Int)
 | 0, _, _, _ => none
 | k + 1, x1, x5, x345000 => if x5 < (x345000.length : Int) then (if 0 ≤ x5 then (if ((rd_T79 x345000 x5).f0) = x1 then (some x5) else (spec_l5Pod.l0 k x1 (wrap64 (x5 + 1)) x345000)) else (none)) else (some (-1))
def spec_l5Pod.f (k : Nat) (l0_0 : List (S79)) (a1 : Int) : Option (Int) := spec_l5Pod.l0 k a1 0 l0_0
theorem spec_l5Pod.mono_l : ∀ k, (∀ y0 y1 y2, LeO (spec_l5Pod.l0 k y0 y1 y2) (spec_l5Pod.l0 (k + 1) y0 y1 y2))
 | 0 => fun _ _ _ r h => by simp [spec_l5Pod.l0] at h
 | k + 1 => by
  have ih0 := spec_l5Pod.mono_l k
  {
  intro y0 y1 y2
  unfold spec_l5Pod.l0
  exact qL
  }
theorem spec_l5Pod.mono : ∀ a0 a1 k, LeO (spec_l5Pod.f k a0 a1) (spec_l5Pod.f (k + 1) a0 a1) := by
 intro a0 a1 k
 have ih0 := spec_l5Pod.mono_l k
 unfold spec_l5Pod.f
 exact qL
set_option maxHeartbeats 8000000 in
set_option maxRecDepth 100000 in
theorem spec_l5Pod.calls (k : Nat) (A0_0 : Option Addr) (c0_0 : Nat) (l0_0 : List (S79)) (a1 : Int) (r : Int) (w : World) (hr0_0 : Kd.C k79 w A0_0 l0_0.length l0_0) (hc0_0 : l0_0.length ≤ c0_0) (h : spec_l5Pod.f k l0_0 a1 = some r) :
  Calls Try.prog 93 #[.agg #[.slice A0_0 l0_0.length c0_0], .int .i64 a1] w fun e w' => e = .returned (.int .i64 r) ∧ Below w.heap.size w w' := by
 have hu26 := Try.underlying26
 have HR0_0 := aM hr0_0
 have HC0_0 := aM hc0_0
 clear hr0_0 hc0_0
 have HB := aM (Below.refl w.heap.size w)
 have H : (spec_l5Pod.l0 k a1 0 l0_0) = some r := h
 clear h
 have H' := aM H
 clear H
 go_enter Try.func93, Try.ntmps93
 go_wp2_with (first | ((with_reducible refine gate_dst (N := 2) rfl ?_); refine bx_ 2 #[.slice A0_0 l0_0.length c0_0] 26 ?_; intro gb344 hg w3 hbox hb; have BK344 := aM (hbox); have GW344 := aM (bz_ w hg qz1); have GE344 := GW344; replace HB := bS_ hb; clear hb hbox hg))
 go_loopg [5] k (fun kq v5 w' => ∃ (x5_1 : Int), v5 = .int .i64 x5_1 ∧ Aside0 (spec_l5Pod.l0 kq a1 x5_1 l0_0 = some r) ∧ Aside0 (kq ≤ k) ∧ Aside0 (w'.heap[gb344]? = some (.cells #[(.slice A0_0 l0_0.length c0_0)] 26 (0, 0))) ∧ Aside0 (Below w.heap.size w w'))
 case atStart => exact ⟨(0), qz6, H', ⟨Nat.le_refl _⟩, ⟨bk_ BK344.out⟩, ⟨qz1⟩⟩
 case round =>
  clear H'
  try clear p2
  obtain ⟨x5_1, rfl, HA, HK1, BK344, HB⟩ := hrel
  cases gk with
  | zero => exact absurd HA.out (by simp [spec_l5Pod.l0])
  | succ k1 =>
   have H := HA.out
   clear HA
   simp only [spec_l5Pod.l0] at H
   by_cases c4 : x5_1 < (l0_0.length : Int)
   {
   rw [if_pos c4] at H
   have c4b0 := decide_eq_true c4
   clear c4
   by_cases c5 : 0 ≤ x5_1
   {
   rw [if_pos c5] at H
   have c5b0 := decide_eq_true c5
   clear c5
   by_cases c6 : ((rd_T79 l0_0 x5_1).f0) = a1
   {
   rw [if_pos c6] at H
   have c6b0 := beq_iff_eq.mpr c6
   have c6b1 := bne_eq_false_iff_eq.mpr c6
   clear c6
   obtain rfl := Option.some.inj H
   simp only [Option.some.injEq, Prod.mk.injEq] at H
   obtain ⟨rfl⟩ := H
   obtain ⟨hcz7_0, hfz7_0⟩ := bf_ BK344.out
   have p345 : 0 ≤ (x5_1 : Int) := dt_
   have q345 : x5_1 < (l0_0.length : Int) := dt_
   obtain ⟨ad345, A345_2, c345_2, e345, hx345_0, hx345_1, hx345_2, hl345_2, hi345_2⟩ := at_T79 HR0_0.out x5_1 p345 q345
   cases e345
   replace hx345_0 := cB_ hx345_0
   replace hx345_1 := cB_ hx345_1
   replace hx345_2 := cB_ hx345_2
   have HR345_2 := aM hi345_2
   have HC345_2 := aM hl345_2
   clear hi345_2 hl345_2
   replace p345 := eq_true p345
   replace q345 := eq_true q345
   go_wp2
   go_ret
   exact ⟨qzw, qz1⟩
   }
   {
   rw [if_neg c6] at H
   have c6b0 := beq_eq_false_iff_ne.mpr c6
   have c6b1 := bne_iff_ne.mpr c6
   have H' := aM H
   clear H
   obtain ⟨hcz8_0, hfz8_0⟩ := bf_ BK344.out
   have p345 : 0 ≤ (x5_1 : Int) := dt_
   have q345 : x5_1 < (l0_0.length : Int) := dt_
   obtain ⟨ad345, A345_2, c345_2, e345, hx345_0, hx345_1, hx345_2, hl345_2, hi345_2⟩ := at_T79 HR0_0.out x5_1 p345 q345
   cases e345
   replace hx345_0 := cB_ hx345_0
   replace hx345_1 := cB_ hx345_1
   replace hx345_2 := cB_ hx345_2
   have HR345_2 := aM hi345_2
   have HC345_2 := aM hl345_2
   clear hi345_2 hl345_2
   replace p345 := eq_true p345
   replace q345 := eq_true q345
   go_wp2
   go_roundg k1
   case measure => have := HK1.out; omega
   case rel => exact ⟨(wrap64 (x5_1 + 1)), qz6, H', ⟨by have := HK1.out; omega⟩, ⟨bk_ BK344.out⟩, ⟨qz1⟩⟩
   }
   }
   {
   exact an_ c5 H
   }
   }
   {
   rw [if_neg c4] at H
   have c4b0 := decide_eq_false c4
   clear c4
   obtain rfl := Option.some.inj H
   simp only [Option.some.injEq, Prod.mk.injEq] at H
   obtain ⟨rfl⟩ := H
   obtain ⟨hcz9_0, hfz9_0⟩ := bf_ BK344.out
   go_wp2
   go_ret
   exact ⟨qzw, qz1⟩

   }
/-! ### spec_l5Stack: function 94 -/
def spec_l5Stack.l0 : Nat → Int → Int → Int → Int → List (S72) → Option (Int × Int × Int)
 | 0, _, _, _, _, _ => none
 | k + 1, x1, x5, x347000, x347001, x347002 => if x5 < (x347002.length : Int) then (if 0 ≤ x5 then (if ((rd_T72 x347002 x5).f0) = x1 then (some ((rd_T72 x347002 x5).f0, (rd_T72 x347002 x5).f1, (rd_T72 x347002 x5).f2)) else (spec_l5Stack.l0 k x1 (wrap64 (x5 + 1)) x347000 x347001 x347002)) else (none)) else (some (x1, 0, 0))
def spec_l5Stack.f (k : Nat) (a0_0 : Int) (a0_1 : Int) (l0_2 : List (S72)) (a1 : Int) : Option (Int × Int × Int) := spec_l5Stack.l0 k a1 0 a0_0 a0_1 l0_2
theorem spec_l5Stack.mono_l : ∀ k, (∀ y0 y1 y2 y3 y4, LeO (spec_l5Stack.l0 k y0 y1 y2 y3 y4) (spec_l5Stack.l0 (k + 1) y0 y1 y2 y3 y4))
 | 0 => fun _ _ _ _ _ r h => by simp [spec_l5Stack.l0] at h
 | k + 1 => by
  have ih0 := spec_l5Stack.mono_l k
  {
  intro y0 y1 y2 y3 y4
  unfold spec_l5Stack.l0
  exact qL
  }
theorem spec_l5Stack.mono : ∀ a0 a1 a2 a3 k, LeO (spec_l5Stack.f k a0 a1 a2 a3) (spec_l5Stack.f (k + 1) a0 a1 a2 a3) := by
 intro a0 a1 a2 a3 k
 have ih0 := spec_l5Stack.mono_l k
 unfold spec_l5Stack.f
 exact qL
set_option maxHeartbeats 8000000 in
set_option maxRecDepth 100000 in
theorem spec_l5Stack.calls (k : Nat) (a0_0 : Int) (a0_1 : Int) (A0_2 : Option Addr) (c0_2 : Nat) (l0_2 : List (S72)) (a1 : Int) (r1 : Int) (r2 : Int) (r3 : Int) (w : World) (hr0_2 : Kd.C k72 w A0_2 l0_2.length l0_2) (hc0_2 : l0_2.length ≤ c0_2) (h : spec_l5Stack.f k a0_0 a0_1 l0_2 a1 = some (r1, r2, r3)) :
  Calls Try.prog 94 #[.agg #[.int .i64 a0_0, .int .i64 a0_1, .slice A0_2 l0_2.length c0_2], .int .i64 a1] w fun e w' => e = .returned (.agg #[.int .i64 r1, .int .i64 r2, .int .i64 r3]) ∧ Below w.heap.size w w' := by
 have hu79 := Try.underlying79
 have hu72 := Try.underlying72
 have HR0_2 := aM hr0_2
 have HC0_2 := aM hc0_2
 clear hr0_2 hc0_2
 have HB := aM (Below.refl w.heap.size w)
 have H : (spec_l5Stack.l0 k a1 0 a0_0 a0_1 l0_2) = some (r1, r2, r3) := h
 clear h
 have H' := aM H
 clear H
 go_enter Try.func94, Try.ntmps94
 go_wp2_with (first | ((with_reducible refine gate_dst (N := 2) rfl ?_); refine bx_ 2 #[.int .i64 a0_0, .int .i64 a0_1, .slice A0_2 l0_2.length c0_2] 79 ?_; intro gb346 hg w3 hbox hb; have BK346 := aM (hbox); have GW346 := aM (bz_ w hg qz1); have GE346 := GW346; replace HB := bS_ hb; clear hb hbox hg) | ((with_reducible refine gate_dst (N := 4) rfl ?_); refine bx_ 4 #[.int .i64 0, .int .i64 0, .int .i64 0] 72 ?_; intro gb347 hg w4 hbox hb; have BK347 := aM (hbox); have GW347 := aM (bz_ w hg qz1); have GE347 := GW347; replace HB := bS_ hb; obtain ⟨NB346_347, NB347_346⟩ := nb_ hg (bk_ BK346.out); replace BK346 := bB_ BK346 hb; clear hb hbox hg))
 go_loopg [5] k (fun kq v5 w' => ∃ (x5_1 : Int) (x348000_1 : Int) (x348001_1 : Int) (x348002_1 : Int), v5 = .int .i64 x5_1 ∧ Aside0 (spec_l5Stack.l0 kq a1 x5_1 a0_0 a0_1 l0_2 = some (r1, r2, r3)) ∧ Aside0 (kq ≤ k) ∧ Aside0 (w'.heap[gb346]? = some (.cells #[.int .i64 a0_0, .int .i64 a0_1, (.slice A0_2 l0_2.length c0_2)] 79 (0, 0))) ∧ Aside0 (w'.heap[gb347]? = some (.cells #[.int .i64 x348000_1, .int .i64 x348001_1, .int .i64 x348002_1] 72 (0, 0))) ∧ Aside0 (Below w.heap.size w w'))
 case atStart => exact ⟨(0), (0), (0), (0), qz6, H', ⟨Nat.le_refl _⟩, ⟨bk_ BK346.out⟩, ⟨bk_ BK347.out⟩, ⟨qz1⟩⟩
 case round =>
  clear H'
  try clear p2
  obtain ⟨x5_1, x348000_1, x348001_1, x348002_1, rfl, HA, HK1, BK346, BK347, HB⟩ := hrel
  cases gk with
  | zero => exact absurd HA.out (by simp [spec_l5Stack.l0])
  | succ k1 =>
   have H := HA.out
   clear HA
   simp only [spec_l5Stack.l0] at H
   by_cases c5 : x5_1 < (l0_2.length : Int)
   {
   rw [if_pos c5] at H
   have c5b0 := decide_eq_true c5
   clear c5
   by_cases c6 : 0 ≤ x5_1
   {
   rw [if_pos c6] at H
   have c6b0 := decide_eq_true c6
   clear c6
   by_cases c7 : ((rd_T72 l0_2 x5_1).f0) = a1
   {
   rw [if_pos c7] at H
   have c7b0 := beq_iff_eq.mpr c7
   have c7b1 := bne_eq_false_iff_eq.mpr c7
   clear c7
   simp only [Option.some.injEq, Prod.mk.injEq] at H
   obtain ⟨rfl, rfl, rfl⟩ := H
   have hnb8 := NB346_347.out
   have hnc8 := NB347_346.out
   obtain ⟨hcz9_0, hcz9_1, hcz9_2, hfz9_0, hfz9_1, hfz9_2⟩ := b6_ BK346.out
   have p348 : 0 ≤ (x5_1 : Int) := dt_
   have q348 : x5_1 < (l0_2.length : Int) := dt_
   obtain ⟨ad348, e348, hx348_0, hx348_1, hx348_2⟩ := at_T72 HR0_2.out x5_1 p348 q348
   cases e348
   replace hx348_0 := cB_ hx348_0
   replace hx348_1 := cB_ hx348_1
   replace hx348_2 := cB_ hx348_2
   replace p348 := eq_true p348
   replace q348 := eq_true q348
   have p349 : 0 ≤ (x5_1 : Int) := dt_
   have q349 : x5_1 < (l0_2.length : Int) := dt_
   obtain ⟨ad349, e349, hx349_0, hx349_1, hx349_2⟩ := at_T72 HR0_2.out x5_1 p349 q349
   obtain rfl : ad348 = ad349 := (by injection e349)
   replace hx349_0 := cB_ hx349_0
   replace hx349_1 := cB_ hx349_1
   replace hx349_2 := cB_ hx349_2
   replace p349 := eq_true p349
   replace q349 := eq_true q349
   obtain ⟨hcz10_0, hcz10_1, hcz10_2, hfz10_0, hfz10_1, hfz10_2⟩ := b6_ BK347.out
   go_wp2
   refine bodyPost_ret (results_cell_row rfl _ _ gb347 72 #[.int .i64 ((rd_T72 l0_2 x5_1).f0), .int .i64 ((rd_T72 l0_2 x5_1).f1), .int .i64 ((rd_T72 l0_2 x5_1).f2)] (0, 0) _ rfl (by (with_reducible repeat (first | refine blk_drewN ?_ _ | refine blk_drew ?_ | refine blk_alloc ?_ _)); refine blk_put (cs := #[.int .i64 ((rd_T72 l0_2 x5_1).f0), .int .i64 ((rd_T72 l0_2 x5_1).f1), .int .i64 x348002_1]) ?_ 2 _ rfl; (with_reducible repeat (first | refine blk_drewN ?_ _ | refine blk_drew ?_ | refine blk_alloc ?_ _)); refine blk_put (cs := #[.int .i64 ((rd_T72 l0_2 x5_1).f0), .int .i64 x348001_1, .int .i64 x348002_1]) ?_ 1 _ rfl; (with_reducible repeat (first | refine blk_drewN ?_ _ | refine blk_drew ?_ | refine blk_alloc ?_ _)); refine blk_put (cs := #[.int .i64 x348000_1, .int .i64 x348001_1, .int .i64 x348002_1]) ?_ 0 _ rfl; exact bk_ BK347.out) Try.underlying72 rfl (by kernel_rfl)) rfl ?_
   exact ⟨qzw, qz1⟩
   }
   {
   rw [if_neg c7] at H
   have c7b0 := beq_eq_false_iff_ne.mpr c7
   have c7b1 := bne_iff_ne.mpr c7
   have H' := aM H
   clear H
   have hnb11 := NB346_347.out
   have hnc11 := NB347_346.out
   obtain ⟨hcz12_0, hcz12_1, hcz12_2, hfz12_0, hfz12_1, hfz12_2⟩ := b6_ BK346.out
   have p348 : 0 ≤ (x5_1 : Int) := dt_
   have q348 : x5_1 < (l0_2.length : Int) := dt_
   obtain ⟨ad348, e348, hx348_0, hx348_1, hx348_2⟩ := at_T72 HR0_2.out x5_1 p348 q348
   cases e348
   replace hx348_0 := cB_ hx348_0
   replace hx348_1 := cB_ hx348_1
   replace hx348_2 := cB_ hx348_2
   replace p348 := eq_true p348
   replace q348 := eq_true q348
   go_wp2
   go_roundg k1
   case measure => have := HK1.out; omega
   case rel => exact ⟨(wrap64 (x5_1 + 1)), (x348000_1), (x348001_1), (x348002_1), qz6, H', ⟨by have := HK1.out; omega⟩, ⟨bk_ BK346.out⟩, ⟨bk_ BK347.out⟩, ⟨qz1⟩⟩
   }
   }
   {
   exact an_ c6 H
   }
   }
   {
   rw [if_neg c5] at H
   have c5b0 := decide_eq_false c5
   clear c5
   simp only [Option.some.injEq, Prod.mk.injEq] at H
   obtain ⟨rfl, rfl, rfl⟩ := H
   have hnb13 := NB346_347.out
   have hnc13 := NB347_346.out
   obtain ⟨hcz14_0, hcz14_1, hcz14_2, hfz14_0, hfz14_1, hfz14_2⟩ := b6_ BK346.out
   obtain ⟨hcz15_0, hcz15_1, hcz15_2, hfz15_0, hfz15_1, hfz15_2⟩ := b6_ BK347.out
   go_wp2
   refine bodyPost_ret (results_cell_row rfl _ _ gb347 72 #[.int .i64 a1, .int .i64 0, .int .i64 0] (0, 0) _ rfl (by (with_reducible repeat (first | refine blk_drewN ?_ _ | refine blk_drew ?_ | refine blk_alloc ?_ _)); refine blk_put (cs := #[.int .i64 a1, .int .i64 0, .int .i64 x348002_1]) ?_ 2 _ rfl; (with_reducible repeat (first | refine blk_drewN ?_ _ | refine blk_drew ?_ | refine blk_alloc ?_ _)); refine blk_put (cs := #[.int .i64 a1, .int .i64 x348001_1, .int .i64 x348002_1]) ?_ 1 _ rfl; (with_reducible repeat (first | refine blk_drewN ?_ _ | refine blk_drew ?_ | refine blk_alloc ?_ _)); refine blk_put (cs := #[.int .i64 x348000_1, .int .i64 x348001_1, .int .i64 x348002_1]) ?_ 0 _ rfl; exact bk_ BK347.out) Try.underlying72 rfl (by kernel_rfl)) rfl ?_
   exact ⟨qzw, qz1⟩

   }
/-! ### spec_l5Call: function 61 -/
def spec_l5Call.j0 : Nat → Int → Int → Bool → List (S79) → Option (Int × Int × Int × Int × Int)
 | 0, _, _, _, _ => none
 | k + 1, x1, x2, x24, x351000 => if x24 = true then (some (0, 0, 0, 0, 1)) else ((spec_l5Pod.f k x351000 x1).bind fun t355 => (if t355 < 0 then (some (0, 0, 0, 0, 2)) else (if 0 ≤ t355 then (if t355 < (x351000.length : Int) then ((spec_l5Stack.f k ((rd_T79 x351000 t355).f0) ((rd_T79 x351000 t355).f1) ((rd_T79 x351000 t355).f2) x2).bind fun bt357 => (some (t355, bt357.1, bt357.2.1, bt357.2.2, 0))) else (none)) else (none))))
def spec_l5Call.f (k : Nat) (l0_0 : List (S79)) (a1 : Int) (a2 : Int) (a3 : Int) : Option (Int × Int × Int × Int × Int) := (spec_StockOk.f k l0_0).bind fun t352 => (if t352 = true then ((spec_l1In.f a2 1 50).bind fun t353 => (if t353 = true then ((spec_l1In.f a3 1 1000).bind fun t354 => (spec_l5Call.j0 k a1 a2 (!t354) l0_0)) else (spec_l5Call.j0 k a1 a2 true l0_0))) else (spec_l5Call.j0 k a1 a2 true l0_0))
theorem spec_l5Call.mono_l : ∀ k, (∀ y0 y1 y2 y3, LeO (spec_l5Call.j0 k y0 y1 y2 y3) (spec_l5Call.j0 (k + 1) y0 y1 y2 y3))
 | 0 => fun _ _ _ _ r h => by simp [spec_l5Call.j0] at h
 | k + 1 => by
  have ih0 := spec_l5Call.mono_l k
  {
  intro y0 y1 y2 y3
  unfold spec_l5Call.j0
  have j0 := @spec_StockOk.mono
  have j1 := @spec_l5Pod.mono
  have j2 := @spec_l5Stack.mono
  exact qL
  }
theorem spec_l5Call.mono : ∀ a0 a1 a2 a3 k, LeO (spec_l5Call.f k a0 a1 a2 a3) (spec_l5Call.f (k + 1) a0 a1 a2 a3) := by
 intro a0 a1 a2 a3 k
 have ih0 := spec_l5Call.mono_l k
 unfold spec_l5Call.f
 have j0 := @spec_StockOk.mono
 have j1 := @spec_l5Pod.mono
 have j2 := @spec_l5Stack.mono
 exact qL
set_option maxHeartbeats 8000000 in
set_option maxRecDepth 100000 in
theorem spec_l5Call.calls (k : Nat) (A0_0 : Option Addr) (c0_0 : Nat) (l0_0 : List (S79)) (a1 : Int) (a2 : Int) (a3 : Int) (r1 : Int) (r2 : Int) (r3 : Int) (r4 : Int) (r5 : Int) (w : World) (hr0_0 : Kd.C k79 w A0_0 l0_0.length l0_0) (hc0_0 : l0_0.length ≤ c0_0) (h : spec_l5Call.f k l0_0 a1 a2 a3 = some (r1, r2, r3, r4, r5)) :
  Calls Try.prog 61 #[.agg #[.slice A0_0 l0_0.length c0_0], .int .i64 a1, .int .i64 a2, .int .i64 a3] w fun e w' => e = .returned (.tuple #[.int .i64 r1, .agg #[.int .i64 r2, .int .i64 r3, .int .i64 r4], .int .i64 r5]) ∧ Below w.heap.size w w' := by
 have hu26 := Try.underlying26
 have hu72 := Try.underlying72
 have hu79 := Try.underlying79
 have HR0_0 := aM hr0_0
 have HC0_0 := aM hc0_0
 clear hr0_0 hc0_0
 have HB := aM (Below.refl w.heap.size w)
 have H : ((spec_StockOk.f k l0_0).bind fun t352 => (if t352 = true then ((spec_l1In.f a2 1 50).bind fun t353 => (if t353 = true then ((spec_l1In.f a3 1 1000).bind fun t354 => (spec_l5Call.j0 k a1 a2 (!t354) l0_0)) else (spec_l5Call.j0 k a1 a2 true l0_0))) else (spec_l5Call.j0 k a1 a2 true l0_0))) = some (r1, r2, r3, r4, r5) := h
 clear h
 have HC5 := aM H
 clear H
 go_enter Try.func61, Try.ntmps61
 go_upto_region 1 with (first | ((with_reducible refine gate_dst (N := 4) rfl ?_); refine bx_ 4 #[.slice A0_0 l0_0.length c0_0] 26 ?_; intro gb350 hg w6 hbox hb; have BK350 := aM (hbox); have GW350 := aM (bz_ w hg qz1); have GE350 := GW350; replace HB := bS_ hb; clear hb hbox hg) | ((with_reducible refine gate_dst (N := 9) rfl ?_); refine bx_ 9 #[.int .i64 0, .int .i64 0, .int .i64 0] 72 ?_; intro gb351 hg w7 hbox hb; have BK351 := aM (hbox); have GW351 := aM (bz_ w hg qz1); have GE351 := GW351; replace HB := bS_ hb; obtain ⟨NB350_351, NB351_350⟩ := nb_ hg (bk_ BK350.out); replace BK350 := bB_ BK350 hb; clear hb hbox hg))
 (try simp only [Act.put, List.setIfInBounds_toArray, List.set_cons_zero, List.set_cons_succ])
 go_cut [24] (fun v24 wc => ∃ (kq : Nat) (x24_4 : Bool), v24 = .bool x24_4 ∧ Aside0 (spec_l5Call.j0 kq a1 a2 x24_4 l0_0 = some (r1, r2, r3, r4, r5)) ∧ Aside0 (kq ≤ k) ∧ Aside0 (wc.heap[gb350]? = some (.cells #[(.slice A0_0 l0_0.length c0_0)] 26 (0, 0))) ∧ Aside0 (wc.heap[gb351]? = some (.cells #[.int .i64 0, .int .i64 0, .int .i64 0] 72 (0, 0))) ∧ Aside0 (Below w.heap.size w wc))
 case first =>
  have H := HC5.out
  clear HC5
  replace H := Option.bind_eq_some_iff.mp H
  obtain ⟨t352, A80, H⟩ := H
  replace H : (if t352 = true then ((spec_l1In.f a2 1 50).bind fun t353 => (if t353 = true then ((spec_l1In.f a3 1 1000).bind fun t354 => (spec_l5Call.j0 k a1 a2 (!t354) l0_0)) else (spec_l5Call.j0 k a1 a2 true l0_0))) else (spec_l5Call.j0 k a1 a2 true l0_0)) = some (r1, r2, r3, r4, r5) := H
  have A8 := aM A80
  clear A80
  by_cases c9 : t352 = true
  {
  subst c9
  rw [if_pos rfl] at H
  replace H := Option.bind_eq_some_iff.mp H
  obtain ⟨t353, A100, H⟩ := H
  replace H : (if t353 = true then ((spec_l1In.f a3 1 1000).bind fun t354 => (spec_l5Call.j0 k a1 a2 (!t354) l0_0)) else (spec_l5Call.j0 k a1 a2 true l0_0)) = some (r1, r2, r3, r4, r5) := H
  have A10 := aM A100
  clear A100
  by_cases c11 : t353 = true
  {
  subst c11
  rw [if_pos rfl] at H
  replace H := Option.bind_eq_some_iff.mp H
  obtain ⟨t354, A120, H⟩ := H
  replace H : (spec_l5Call.j0 k a1 a2 (!t354) l0_0) = some (r1, r2, r3, r4, r5) := H
  have A12 := aM A120
  clear A120
  have H' := aM H
  clear H
  have hnb13 := NB350_351.out
  have hnc13 := NB351_350.out
  obtain ⟨hcz14_0, hfz14_0⟩ := bf_ BK350.out
  go_wp2_with (first | ((with_reducible refine gate_callee (f := 37) rfl ?_); refine goesL_ (some 13) rfl rfl Try.func37 (by kernel_rfl) rfl #[.agg #[.slice A0_0 l0_0.length c0_0]] rfl qz4 ?_; (with_reducible refine (spec_StockOk.calls k _ _ l0_0 true _ ?side1 ?side2 A8.out).mono ?_); (case side1 => exact qz7); (case side2 => exact HC0_0.out); rintro e w15 ⟨rfl, hb⟩; refine ⟨_, rfl, ?_⟩; replace BK350 := bB_ BK350 hb; replace BK351 := bB_ BK351 hb; replace HB := bS_ hb; (try clear hb); (try clear hb2); (try clear hk); (try clear hi)) | (go_at_call 81; (with_reducible refine (spec_l1In.calls a2 1 50 true _ A10.out).mono ?_); rintro e w' ⟨rfl, ⟨nd, rfl⟩⟩) | (go_at_call 81; (with_reducible refine (spec_l1In.calls a3 1 1000 t354 _ A12.out).mono ?_); rintro e w' ⟨rfl, ⟨nd, rfl⟩⟩))
  go_meet
  case rel => exact ⟨_, (!t354), qz6, H', ⟨by first | omega | exact Nat.le_refl _⟩, ⟨bk_ BK350.out⟩, ⟨bk_ BK351.out⟩, ⟨qz1⟩⟩
  }
  {
  replace c11 := Bool.eq_false_iff.mpr c11
  subst c11
  rw [if_neg (show ¬ (false = true) by decide)] at H
  have H' := aM H
  clear H
  have hnb16 := NB350_351.out
  have hnc16 := NB351_350.out
  obtain ⟨hcz17_0, hfz17_0⟩ := bf_ BK350.out
  go_wp2_with (first | ((with_reducible refine gate_callee (f := 37) rfl ?_); refine goesL_ (some 13) rfl rfl Try.func37 (by kernel_rfl) rfl #[.agg #[.slice A0_0 l0_0.length c0_0]] rfl qz4 ?_; (with_reducible refine (spec_StockOk.calls k _ _ l0_0 true _ ?side1 ?side2 A8.out).mono ?_); (case side1 => exact qz7); (case side2 => exact HC0_0.out); rintro e w18 ⟨rfl, hb⟩; refine ⟨_, rfl, ?_⟩; replace BK350 := bB_ BK350 hb; replace BK351 := bB_ BK351 hb; replace HB := bS_ hb; (try clear hb); (try clear hb2); (try clear hk); (try clear hi)) | (go_at_call 81; (with_reducible refine (spec_l1In.calls a2 1 50 false _ A10.out).mono ?_); rintro e w' ⟨rfl, ⟨nd, rfl⟩⟩))
  go_meet
  case rel => exact ⟨_, (true), qz6, H', ⟨by first | omega | exact Nat.le_refl _⟩, ⟨bk_ BK350.out⟩, ⟨bk_ BK351.out⟩, ⟨qz1⟩⟩
  }
  }
  {
  replace c9 := Bool.eq_false_iff.mpr c9
  subst c9
  rw [if_neg (show ¬ (false = true) by decide)] at H
  have H' := aM H
  clear H
  have hnb19 := NB350_351.out
  have hnc19 := NB351_350.out
  obtain ⟨hcz20_0, hfz20_0⟩ := bf_ BK350.out
  go_wp2_with (first | ((with_reducible refine gate_callee (f := 37) rfl ?_); refine goesL_ (some 13) rfl rfl Try.func37 (by kernel_rfl) rfl #[.agg #[.slice A0_0 l0_0.length c0_0]] rfl qz4 ?_; (with_reducible refine (spec_StockOk.calls k _ _ l0_0 false _ ?side1 ?side2 A8.out).mono ?_); (case side1 => exact qz7); (case side2 => exact HC0_0.out); rintro e w21 ⟨rfl, hb⟩; refine ⟨_, rfl, ?_⟩; replace BK350 := bB_ BK350 hb; replace BK351 := bB_ BK351 hb; replace HB := bS_ hb; (try clear hb); (try clear hb2); (try clear hk); (try clear hi)))
  go_meet
  case rel => exact ⟨_, (true), qz6, H', ⟨by first | omega | exact Nat.le_refl _⟩, ⟨bk_ BK350.out⟩, ⟨bk_ BK351.out⟩, ⟨qz1⟩⟩
  }
 case rest =>
  clear HC5
  try clear c1
  try clear p2
  try clear c3
  try clear c6
  try clear c9
  try clear c11
  try clear c13
  try clear c16
  try clear c19
  try clear hcz14_0
  try clear hcz17_0
  try clear hcz20_0
  try clear hfz14_0
  try clear hfz17_0
  try clear hfz20_0
  obtain ⟨kq, x24_4, rfl, HA, HJ4, BK350, BK351, HB⟩ := hcut
  cases kq with
  | zero => exact absurd HA.out (by simp [spec_l5Call.j0])
  | succ kj4 =>
   have H := HA.out
   clear HA
   simp only [spec_l5Call.j0] at H
   by_cases c22 : x24_4 = true
   {
   subst c22
   rw [if_pos rfl] at H
   simp only [Option.some.injEq, Prod.mk.injEq] at H
   obtain ⟨rfl, rfl, rfl, rfl, rfl⟩ := H
   have hnb23 := NB351_350.out
   have hnc23 := NB350_351.out
   obtain ⟨hcz24_0, hcz24_1, hcz24_2, hfz24_0, hfz24_1, hfz24_2⟩ := b6_ BK351.out
   go_wp2
   refine bodyPost_ret (results_list (rs := [.tmp 8, .cell 9 72, .tmp 10]) rfl (by simp) (.tmp (.cell gb351 72 #[.int .i64 0, .int .i64 0, .int .i64 0] (0, 0) _ rfl (by (with_reducible repeat (first | refine blk_drewN ?_ _ | refine blk_drew ?_ | refine blk_alloc ?_ _)); refine blk_put (cs := #[.int .i64 0, .int .i64 0, .int .i64 0]) ?_ 2 _ rfl; (with_reducible repeat (first | refine blk_drewN ?_ _ | refine blk_drew ?_ | refine blk_alloc ?_ _)); refine blk_put (cs := #[.int .i64 0, .int .i64 0, .int .i64 0]) ?_ 1 _ rfl; (with_reducible repeat (first | refine blk_drewN ?_ _ | refine blk_drew ?_ | refine blk_alloc ?_ _)); refine blk_put (cs := #[.int .i64 0, .int .i64 0, .int .i64 0]) ?_ 0 _ rfl; exact bk_ BK351.out) Try.underlying72 rfl (by kernel_rfl) (.tmp .nil)))) rfl ?_
   exact ⟨qzw, qz1⟩
   }
   {
   replace c22 := Bool.eq_false_iff.mpr c22
   subst c22
   rw [if_neg (show ¬ (false = true) by decide)] at H
   replace H := Option.bind_eq_some_iff.mp H
   obtain ⟨t355, A250, H⟩ := H
   replace H : (if t355 < 0 then (some (0, 0, 0, 0, 2)) else (if 0 ≤ t355 then (if t355 < (l0_0.length : Int) then ((spec_l5Stack.f kj4 ((rd_T79 l0_0 t355).f0) ((rd_T79 l0_0 t355).f1) ((rd_T79 l0_0 t355).f2) a2).bind fun bt357 => (some (t355, bt357.1, bt357.2.1, bt357.2.2, 0))) else (none)) else (none))) = some (r1, r2, r3, r4, r5) := H
   have A25 := aM A250
   clear A250
   by_cases c26 : t355 < 0
   {
   rw [if_pos c26] at H
   have c26b0 := decide_eq_true c26
   clear c26
   simp only [Option.some.injEq, Prod.mk.injEq] at H
   obtain ⟨rfl, rfl, rfl, rfl, rfl⟩ := H
   have hnb27 := NB350_351.out
   have hnc27 := NB351_350.out
   obtain ⟨hcz28_0, hfz28_0⟩ := bf_ BK350.out
   go_wp2_with (first | ((with_reducible refine gate_callee (f := 93) rfl ?_); refine goesL_ (some 28) rfl rfl Try.func93 (by kernel_rfl) rfl #[.agg #[.slice A0_0 l0_0.length c0_0], .int .i64 a1] rfl qz4 ?_; (with_reducible refine (spec_l5Pod.calls kj4 _ _ l0_0 a1 t355 _ ?side1 ?side2 A25.out).mono ?_); (case side1 => exact qz7); (case side2 => exact HC0_0.out); rintro e w29 ⟨rfl, hb⟩; refine ⟨_, rfl, ?_⟩; replace BK350 := bB_ BK350 hb; replace BK351 := bB_ BK351 hb; replace HB := bS_ hb; (try clear hb); (try clear hb2); (try clear hk); (try clear hi); obtain ⟨hcz30_0, hcz30_1, hcz30_2, hfz30_0, hfz30_1, hfz30_2⟩ := b6_ BK351.out))
   refine bodyPost_ret (results_list (rs := [.tmp 8, .cell 9 72, .tmp 10]) rfl (by simp) (.tmp (.cell gb351 72 #[.int .i64 0, .int .i64 0, .int .i64 0] (0, 0) _ rfl (by (with_reducible repeat (first | refine blk_drewN ?_ _ | refine blk_drew ?_ | refine blk_alloc ?_ _)); refine blk_put (cs := #[.int .i64 0, .int .i64 0, .int .i64 0]) ?_ 2 _ rfl; (with_reducible repeat (first | refine blk_drewN ?_ _ | refine blk_drew ?_ | refine blk_alloc ?_ _)); refine blk_put (cs := #[.int .i64 0, .int .i64 0, .int .i64 0]) ?_ 1 _ rfl; (with_reducible repeat (first | refine blk_drewN ?_ _ | refine blk_drew ?_ | refine blk_alloc ?_ _)); refine blk_put (cs := #[.int .i64 0, .int .i64 0, .int .i64 0]) ?_ 0 _ rfl; exact bk_ BK351.out) Try.underlying72 rfl (by kernel_rfl) (.tmp .nil)))) rfl ?_
   exact ⟨qzw, qz1⟩
   }
   {
   rw [if_neg c26] at H
   have c26b0 := decide_eq_false c26
   clear c26
   by_cases c31 : 0 ≤ t355
   {
   rw [if_pos c31] at H
   have c31b0 := decide_eq_true c31
   clear c31
   by_cases c32 : t355 < (l0_0.length : Int)
   {
   rw [if_pos c32] at H
   have c32b0 := decide_eq_true c32
   clear c32
   replace H := Option.bind_eq_some_iff.mp H
   obtain ⟨⟨t357, t358, t359⟩, A330, H⟩ := H
   replace H : (some (t355, t357, t358, t359, 0)) = some (r1, r2, r3, r4, r5) := H
   have A33 := aM A330
   clear A330
   simp only [Option.some.injEq, Prod.mk.injEq] at H
   obtain ⟨rfl, rfl, rfl, rfl, rfl⟩ := H
   have hnb34 := NB350_351.out
   have hnc34 := NB351_350.out
   obtain ⟨hcz35_0, hfz35_0⟩ := bf_ BK350.out
   go_wp2_with (first | ((with_reducible refine gate_callee (f := 93) rfl ?_); refine goesL_ (some 28) rfl rfl Try.func93 (by kernel_rfl) rfl #[.agg #[.slice A0_0 l0_0.length c0_0], .int .i64 a1] rfl qz4 ?_; (with_reducible refine (spec_l5Pod.calls kj4 _ _ l0_0 a1 t355 _ ?side1 ?side2 A25.out).mono ?_); (case side1 => exact qz7); (case side2 => exact HC0_0.out); rintro e w36 ⟨rfl, hb⟩; refine ⟨_, rfl, ?_⟩; replace BK350 := bB_ BK350 hb; replace BK351 := bB_ BK351 hb; replace HB := bS_ hb; (try clear hb); (try clear hb2); (try clear hk); (try clear hi); obtain ⟨hcz37_0, hfz37_0⟩ := bf_ BK350.out; have p356 : 0 ≤ (t355 : Int) := dt_; have q356 : t355 < (l0_0.length : Int) := dt_; obtain ⟨ad356, A356_2, c356_2, e356, hx356_0, hx356_1, hx356_2, hl356_2, hi356_2⟩ := at_T79 HR0_0.out t355 p356 q356; cases e356; replace hx356_0 := cB_ hx356_0; replace hx356_1 := cB_ hx356_1; replace hx356_2 := cB_ hx356_2; have HR356_2 := aM hi356_2; have HC356_2 := aM hl356_2; clear hi356_2 hl356_2; replace p356 := eq_true p356; replace q356 := eq_true q356) | ((with_reducible refine gate_callee (f := 94) rfl ?_); refine goesL_ (some 39) rfl rfl Try.func94 (by kernel_rfl) rfl #[.agg #[.int .i64 ((rd_T79 l0_0 t355).f0), .int .i64 ((rd_T79 l0_0 t355).f1), .slice A356_2 ((rd_T79 l0_0 t355).f2).length c356_2], .int .i64 a2] rfl qz4 ?_; (with_reducible refine (spec_l5Stack.calls kj4 ((rd_T79 l0_0 t355).f0) ((rd_T79 l0_0 t355).f1) _ _ ((rd_T79 l0_0 t355).f2) a2 t357 t358 t359 _ ?side1 ?side2 A33.out).mono ?_); (case side1 => repeat (first | exact (Kd.C_below HR356_2.out HB.out) | (with_reducible refine Kd.C_alloc ?_ _) | (with_reducible refine Kd.C_drewN ?_ _) | (with_reducible refine Kd.C_drew ?_))); (case side2 => exact HC356_2.out); rintro e w38 ⟨rfl, hb⟩; refine ⟨_, rfl, ?_⟩; replace BK350 := bB_ BK350 hb; replace BK351 := bB_ BK351 hb; replace HB := bS_ hb; (try clear hb); (try clear hb2); (try clear hk); (try clear hi); obtain ⟨hcz39_0, hcz39_1, hcz39_2, hfz39_0, hfz39_1, hfz39_2⟩ := b6_ BK351.out))
   refine bodyPost_ret (results_list (rs := [.tmp 8, .cell 9 72, .tmp 10]) rfl (by simp) (.tmp (.cell gb351 72 #[.int .i64 t357, .int .i64 t358, .int .i64 t359] (0, 0) _ rfl (by (with_reducible repeat (first | refine blk_drewN ?_ _ | refine blk_drew ?_ | refine blk_alloc ?_ _)); refine blk_put (cs := #[.int .i64 t357, .int .i64 t358, .int .i64 0]) ?_ 2 _ rfl; (with_reducible repeat (first | refine blk_drewN ?_ _ | refine blk_drew ?_ | refine blk_alloc ?_ _)); refine blk_put (cs := #[.int .i64 t357, .int .i64 0, .int .i64 0]) ?_ 1 _ rfl; (with_reducible repeat (first | refine blk_drewN ?_ _ | refine blk_drew ?_ | refine blk_alloc ?_ _)); refine blk_put (cs := #[.int .i64 0, .int .i64 0, .int .i64 0]) ?_ 0 _ rfl; exact bk_ BK351.out) Try.underlying72 rfl (by kernel_rfl) (.tmp .nil)))) rfl ?_
   exact ⟨qzw, qz1⟩
   }
   {
   exact an_ c32 H
   }
   }
   {
   exact an_ c31 H

   }
   }
   }
end Go.Proofs.Yteajnkondkfmgaa.PFnTaken
