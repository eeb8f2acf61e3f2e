-- Made by a program of this session out of the translation. Lean checks it.
import Derived.Test.YteajnkondkfmgaaPFnExactPutInx0
import Derived.Test.YteajnkondkfmgaaPFnExactPutInx4
import Derived.Test.YteajnkondkfmgaaPFnExactPutInx9
import Derived.Test.YteajnkondkfmgaaPFnExactPutInx10
import Derived.Test.YteajnkondkfmgaaPFnExactPutInx11
namespace Go.Proofs.Yteajnkondkfmgaa.PFnExactPutIn
open Go.RowKit Go.Proofs.YteajnkondkfmgaaW.PrintWords Go.Proofs.YteajnkondkfmgaaW.PrintLast Go.Proofs.YteajnkondkfmgaaW.PrintMore
attribute [local go_sem] max2_int min2_int max_two min_two max_three min_three max_four min_four   -- for this text's walks alone
set_option linter.unusedVariables false
set_option linter.unusedSimpArgs false

/-! ### laws_heldStackS: function 100 -/
def laws_heldStackS.l0 : Nat → List (S72) → Int → Int → Option (Int)
  | 0, _, _, _ => none
  | k + 1, x0, x1, x5 => if x5 < (x0.length : Int) then (if 0 ≤ x5 then (if ((rd_T72 x0 x5).f0) = x1 then (if ((rd_T72 x0 x5).f1) = (wrap64 (x1 + 1)) then (if ((rd_T72 x0 x5).f2) = (wrap64 ((wrap64 (x1 + 1)) + 1)) then (laws_heldStackS.l0 k x0 (wrap64 ((wrap64 ((wrap64 (x1 + 1)) + 1)) + 1)) (wrap64 (x5 + 1))) else (some (-1))) else (some (-1))) else (some (-1))) else (none)) else (some x1)
def laws_heldStackS.f (k : Nat) (l0 : List (S72)) (a1 : Int) : Option (Int) := laws_heldStackS.l0 k l0 a1 0
theorem laws_heldStackS.mono_l : ∀ k, (∀ y0 y1 y2, LeO (laws_heldStackS.l0 k y0 y1 y2) (laws_heldStackS.l0 (k + 1) y0 y1 y2))
  | 0 => fun _ _ _ r h => by simp [laws_heldStackS.l0] at h
  | k + 1 => by
    have ih0 := laws_heldStackS.mono_l k
    {
    intro y0 y1 y2
    unfold laws_heldStackS.l0
    repeat' first
    | (with_reducible exact ih0 _ _ _)
    | (with_reducible exact LeO.refl _)
    | (with_reducible exact LeO.none _)
    | (with_reducible refine LeO.ite ?_ ?_)
    | (with_reducible refine LeO.bind ?_ (fun _ => ?_))
    | exact ih0 _ _ _
    | exact LeO.none _
    | refine LeO.ite ?_ ?_
    | refine LeO.bind ?_ (fun _ => ?_)
    }
theorem laws_heldStackS.mono : ∀ a0 a1 k, LeO (laws_heldStackS.f k a0 a1) (laws_heldStackS.f (k + 1) a0 a1) := by
  intro a0 a1 k
  have ih0 := laws_heldStackS.mono_l k
  unfold laws_heldStackS.f
  repeat' first
      | (with_reducible exact ih0 _ _ _)
      | (with_reducible exact LeO.refl _)
      | (with_reducible exact LeO.none _)
      | (with_reducible refine LeO.ite ?_ ?_)
      | (with_reducible refine LeO.bind ?_ (fun _ => ?_))
      | exact ih0 _ _ _
      | exact LeO.none _
      | refine LeO.ite ?_ ?_
      | refine LeO.bind ?_ (fun _ => ?_)
set_option maxHeartbeats 8000000 in
set_option maxRecDepth 100000 in
theorem laws_heldStackS.calls (k : Nat) (A0 : Option Addr) (c0 : Nat) (l0 : List (S72)) (a1 : Int) (r : Int) (w : World) (hr0 : Kd.C k72 w A0 l0.length l0) (hc0 : l0.length ≤ c0) (h : laws_heldStackS.f k l0 a1 = some r) :
    Calls Try.prog 100 #[.slice A0 l0.length c0, .int .i64 a1] w fun e w' => e = .returned (.int .i64 r) ∧ Drawn0 w w' := by
  have HR0 := Aside0.mk hr0
  have HC0 := Aside0.mk hc0
  clear hr0 hc0
  have H : (laws_heldStackS.l0 k l0 a1 0) = some r := h
  clear h
  have H' := Aside0.mk H
  clear H
  go_enter Try.func100, Try.ntmps100
  go_wp2
  go_loopg [1, 5] k (fun kq v1 v5 w' => ∃ (x1_1 : Int) (x5_1 : Int), v1 = .int .i64 x1_1 ∧ v5 = .int .i64 x5_1 ∧ Aside0 (laws_heldStackS.l0 kq l0 x1_1 x5_1 = some r) ∧ Aside0 (kq ≤ k) ∧ Drawn0 w w')
  case atStart => exact ⟨(a1), (0), qz6, qz6, H', ⟨Nat.le_refl _⟩, by repeat (first | exact Drawn0.refl _ | apply Drawn0.step)⟩
  case round =>
    clear H'
    try clear c1
    try clear p2
    obtain ⟨x1_1, x5_1, rfl, rfl, HA, HK1, ⟨m1, rfl⟩⟩ := hrel
    cases gk with
    | zero => exact absurd HA.out (by simp [laws_heldStackS.l0])
    | succ k1 =>
      have H := HA.out
      clear HA
      simp only [laws_heldStackS.l0] at H
      by_cases c3 : x5_1 < (l0.length : Int)
      {
      rw [if_pos c3] at H
      have c3b0 : decide (x5_1 < (l0.length : Int)) = true := decide_eq_true c3
      clear c3
      by_cases c4 : 0 ≤ x5_1
      {
      rw [if_pos c4] at H
      have c4b0 : decide (0 ≤ x5_1) = true := decide_eq_true c4
      clear c4
      by_cases c5 : ((rd_T72 l0 x5_1).f0) = x1_1
      {
      rw [if_pos c5] at H
      have c5b0 : (((rd_T72 l0 x5_1).f0) == x1_1) = true := beq_iff_eq.mpr c5
      have c5b1 : (((rd_T72 l0 x5_1).f0) != x1_1) = false := bne_eq_false_iff_eq.mpr c5
      clear c5
      by_cases c6 : ((rd_T72 l0 x5_1).f1) = (wrap64 (x1_1 + 1))
      {
      rw [if_pos c6] at H
      have c6b0 : (((rd_T72 l0 x5_1).f1) == (wrap64 (x1_1 + 1))) = true := beq_iff_eq.mpr c6
      have c6b1 : (((rd_T72 l0 x5_1).f1) != (wrap64 (x1_1 + 1))) = false := bne_eq_false_iff_eq.mpr c6
      clear c6
      by_cases c7 : ((rd_T72 l0 x5_1).f2) = (wrap64 ((wrap64 (x1_1 + 1)) + 1))
      {
      rw [if_pos c7] at H
      have c7b0 : (((rd_T72 l0 x5_1).f2) == (wrap64 ((wrap64 (x1_1 + 1)) + 1))) = true := beq_iff_eq.mpr c7
      have c7b1 : (((rd_T72 l0 x5_1).f2) != (wrap64 ((wrap64 (x1_1 + 1)) + 1))) = false := bne_eq_false_iff_eq.mpr c7
      clear c7
      have H' := Aside0.mk H
      clear H
      have p267 : 0 ≤ (x5_1 : Int) := of_decide_eq_true qz3
      have q267 : x5_1 < (l0.length : Int) := of_decide_eq_true qz3
      obtain ⟨ad267, e267, hx267_0, hx267_1, hx267_2⟩ := at_T72 HR0.out x5_1 p267 q267
      cases e267
      replace p267 := eq_true p267
      replace q267 := eq_true q267
      have p268 : 0 ≤ (x5_1 : Int) := of_decide_eq_true qz3
      have q268 : x5_1 < (l0.length : Int) := of_decide_eq_true qz3
      obtain ⟨ad268, e268, hx268_0, hx268_1, hx268_2⟩ := at_T72 HR0.out x5_1 p268 q268
      obtain rfl : ad267 = ad268 := (by injection e268)
      replace p268 := eq_true p268
      replace q268 := eq_true q268
      have p269 : 0 ≤ (x5_1 : Int) := of_decide_eq_true qz3
      have q269 : x5_1 < (l0.length : Int) := of_decide_eq_true qz3
      obtain ⟨ad269, e269, hx269_0, hx269_1, hx269_2⟩ := at_T72 HR0.out x5_1 p269 q269
      obtain rfl : ad267 = ad269 := (by injection e269)
      replace p269 := eq_true p269
      replace q269 := eq_true q269
      go_wp2
      go_roundg k1
      case measure => have := HK1.out; omega
      case rel => exact ⟨(wrap64 ((wrap64 ((wrap64 (x1_1 + 1)) + 1)) + 1)), (wrap64 (x5_1 + 1)), qz6, qz6, H', ⟨by have := HK1.out; omega⟩, by repeat (first | exact Drawn0.refl _ | apply Drawn0.step)⟩
      }
      {
      rw [if_neg c7] at H
      have c7b0 : (((rd_T72 l0 x5_1).f2) == (wrap64 ((wrap64 (x1_1 + 1)) + 1))) = false := beq_eq_false_iff_ne.mpr c7
      have c7b1 : (((rd_T72 l0 x5_1).f2) != (wrap64 ((wrap64 (x1_1 + 1)) + 1))) = true := bne_iff_ne.mpr c7
      obtain rfl := Option.some.inj H
      simp only [Option.some.injEq, Prod.mk.injEq] at H
      obtain ⟨rfl⟩ := H
      have p267 : 0 ≤ (x5_1 : Int) := of_decide_eq_true qz3
      have q267 : x5_1 < (l0.length : Int) := of_decide_eq_true qz3
      obtain ⟨ad267, e267, hx267_0, hx267_1, hx267_2⟩ := at_T72 HR0.out x5_1 p267 q267
      cases e267
      replace p267 := eq_true p267
      replace q267 := eq_true q267
      have p268 : 0 ≤ (x5_1 : Int) := of_decide_eq_true qz3
      have q268 : x5_1 < (l0.length : Int) := of_decide_eq_true qz3
      obtain ⟨ad268, e268, hx268_0, hx268_1, hx268_2⟩ := at_T72 HR0.out x5_1 p268 q268
      obtain rfl : ad267 = ad268 := (by injection e268)
      replace p268 := eq_true p268
      replace q268 := eq_true q268
      have p269 : 0 ≤ (x5_1 : Int) := of_decide_eq_true qz3
      have q269 : x5_1 < (l0.length : Int) := of_decide_eq_true qz3
      obtain ⟨ad269, e269, hx269_0, hx269_1, hx269_2⟩ := at_T72 HR0.out x5_1 p269 q269
      obtain rfl : ad267 = ad269 := (by injection e269)
      replace p269 := eq_true p269
      replace q269 := eq_true q269
      go_wp2
      go_ret
      exact ⟨by first | rfl | (simp; done) | (simp [*]; done), by repeat (first | exact Drawn0.refl _ | apply Drawn0.step)⟩
      }
      }
      {
      rw [if_neg c6] at H
      have c6b0 : (((rd_T72 l0 x5_1).f1) == (wrap64 (x1_1 + 1))) = false := beq_eq_false_iff_ne.mpr c6
      have c6b1 : (((rd_T72 l0 x5_1).f1) != (wrap64 (x1_1 + 1))) = true := bne_iff_ne.mpr c6
      obtain rfl := Option.some.inj H
      simp only [Option.some.injEq, Prod.mk.injEq] at H
      obtain ⟨rfl⟩ := H
      have p267 : 0 ≤ (x5_1 : Int) := of_decide_eq_true qz3
      have q267 : x5_1 < (l0.length : Int) := of_decide_eq_true qz3
      obtain ⟨ad267, e267, hx267_0, hx267_1, hx267_2⟩ := at_T72 HR0.out x5_1 p267 q267
      cases e267
      replace p267 := eq_true p267
      replace q267 := eq_true q267
      have p268 : 0 ≤ (x5_1 : Int) := of_decide_eq_true qz3
      have q268 : x5_1 < (l0.length : Int) := of_decide_eq_true qz3
      obtain ⟨ad268, e268, hx268_0, hx268_1, hx268_2⟩ := at_T72 HR0.out x5_1 p268 q268
      obtain rfl : ad267 = ad268 := (by injection e268)
      replace p268 := eq_true p268
      replace q268 := eq_true q268
      go_wp2
      go_ret
      exact ⟨by first | rfl | (simp; done) | (simp [*]; done), by repeat (first | exact Drawn0.refl _ | apply Drawn0.step)⟩
      }
      }
      {
      rw [if_neg c5] at H
      have c5b0 : (((rd_T72 l0 x5_1).f0) == x1_1) = false := beq_eq_false_iff_ne.mpr c5
      have c5b1 : (((rd_T72 l0 x5_1).f0) != x1_1) = true := bne_iff_ne.mpr c5
      obtain rfl := Option.some.inj H
      simp only [Option.some.injEq, Prod.mk.injEq] at H
      obtain ⟨rfl⟩ := H
      have p267 : 0 ≤ (x5_1 : Int) := of_decide_eq_true qz3
      have q267 : x5_1 < (l0.length : Int) := of_decide_eq_true qz3
      obtain ⟨ad267, e267, hx267_0, hx267_1, hx267_2⟩ := at_T72 HR0.out x5_1 p267 q267
      cases e267
      replace p267 := eq_true p267
      replace q267 := eq_true q267
      go_wp2
      go_ret
      exact ⟨by first | rfl | (simp; done) | (simp [*]; done), by repeat (first | exact Drawn0.refl _ | apply Drawn0.step)⟩
      }
      }
      {
      rw [if_neg c4] at H
      exact absurd H (by simp)
      }
      }
      {
      rw [if_neg c3] at H
      have c3b0 : decide (x5_1 < (l0.length : Int)) = false := decide_eq_false c3
      clear c3
      obtain rfl := Option.some.inj H
      simp only [Option.some.injEq, Prod.mk.injEq] at H
      obtain ⟨rfl⟩ := H
      go_wp2
      go_ret
      exact ⟨by first | rfl | (simp; done) | (simp [*]; done), by repeat (first | exact Drawn0.refl _ | apply Drawn0.step)⟩

      }
/-! ### laws_heldPodS: function 74 -/
def laws_heldPodS.l0 : Nat → List (S79) → Int → Int → Option (Int)
  | 0, _, _, _ => none
  | k + 1, x0, x1, x5 => if x5 < (x0.length : Int) then (if 0 ≤ x5 then (if ((rd_T79 x0 x5).f0) = x1 then (if ((rd_T79 x0 x5).f1) = (wrap64 (x1 + 1)) then ((laws_heldStackS.f k ((rd_T79 x0 x5).f2) (wrap64 ((wrap64 (x1 + 1)) + 1))).bind fun t273 => (if t273 < 0 then (some (-1)) else (laws_heldPodS.l0 k x0 t273 (wrap64 (x5 + 1))))) else (some (-1))) else (some (-1))) else (none)) else (some x1)
def laws_heldPodS.f (k : Nat) (l0 : List (S79)) (a1 : Int) : Option (Int) := laws_heldPodS.l0 k l0 a1 0
theorem laws_heldPodS.mono_l : ∀ k, (∀ y0 y1 y2, LeO (laws_heldPodS.l0 k y0 y1 y2) (laws_heldPodS.l0 (k + 1) y0 y1 y2))
  | 0 => fun _ _ _ r h => by simp [laws_heldPodS.l0] at h
  | k + 1 => by
    have ih0 := laws_heldPodS.mono_l k
    {
    intro y0 y1 y2
    unfold laws_heldPodS.l0
    repeat' first
    | (with_reducible exact ih0 _ _ _)
    | (with_reducible exact laws_heldStackS.mono _ _ _)
    | (with_reducible exact LeO.refl _)
    | (with_reducible exact LeO.none _)
    | (with_reducible refine LeO.ite ?_ ?_)
    | (with_reducible refine LeO.bind ?_ (fun _ => ?_))
    | exact ih0 _ _ _
    | exact laws_heldStackS.mono _ _ _
    | exact LeO.none _
    | refine LeO.ite ?_ ?_
    | refine LeO.bind ?_ (fun _ => ?_)
    }
theorem laws_heldPodS.mono : ∀ a0 a1 k, LeO (laws_heldPodS.f k a0 a1) (laws_heldPodS.f (k + 1) a0 a1) := by
  intro a0 a1 k
  have ih0 := laws_heldPodS.mono_l k
  unfold laws_heldPodS.f
  repeat' first
      | (with_reducible exact ih0 _ _ _)
      | (with_reducible exact laws_heldStackS.mono _ _ _)
      | (with_reducible exact LeO.refl _)
      | (with_reducible exact LeO.none _)
      | (with_reducible refine LeO.ite ?_ ?_)
      | (with_reducible refine LeO.bind ?_ (fun _ => ?_))
      | exact ih0 _ _ _
      | exact laws_heldStackS.mono _ _ _
      | exact LeO.none _
      | refine LeO.ite ?_ ?_
      | refine LeO.bind ?_ (fun _ => ?_)
set_option maxHeartbeats 8000000 in
set_option maxRecDepth 100000 in
theorem laws_heldPodS.calls (k : Nat) (A0 : Option Addr) (c0 : Nat) (l0 : List (S79)) (a1 : Int) (r : Int) (w : World) (hr0 : Kd.C k79 w A0 l0.length l0) (hc0 : l0.length ≤ c0) (h : laws_heldPodS.f k l0 a1 = some r) :
    Calls Try.prog 74 #[.slice A0 l0.length c0, .int .i64 a1] w fun e w' => e = .returned (.int .i64 r) ∧ Drawn0 w w' := by
  have HR0 := Aside0.mk hr0
  have HC0 := Aside0.mk hc0
  clear hr0 hc0
  have H : (laws_heldPodS.l0 k l0 a1 0) = some r := h
  clear h
  have H' := Aside0.mk H
  clear H
  go_enter Try.func74, Try.ntmps74
  go_wp2
  go_loopg [1, 5] k (fun kq v1 v5 w' => ∃ (x1_1 : Int) (x5_1 : Int), v1 = .int .i64 x1_1 ∧ v5 = .int .i64 x5_1 ∧ Aside0 (laws_heldPodS.l0 kq l0 x1_1 x5_1 = some r) ∧ Aside0 (kq ≤ k) ∧ Drawn0 w w')
  case atStart => exact ⟨(a1), (0), qz6, qz6, H', ⟨Nat.le_refl _⟩, by repeat (first | exact Drawn0.refl _ | apply Drawn0.step)⟩
  case round =>
    clear H'
    try clear p2
    obtain ⟨x1_1, x5_1, rfl, rfl, HA, HK1, ⟨m1, rfl⟩⟩ := hrel
    cases gk with
    | zero => exact absurd HA.out (by simp [laws_heldPodS.l0])
    | succ k1 =>
      have H := HA.out
      clear HA
      simp only [laws_heldPodS.l0] at H
      by_cases c3 : x5_1 < (l0.length : Int)
      {
      rw [if_pos c3] at H
      have c3b0 : decide (x5_1 < (l0.length : Int)) = true := decide_eq_true c3
      clear c3
      by_cases c4 : 0 ≤ x5_1
      {
      rw [if_pos c4] at H
      have c4b0 : decide (0 ≤ x5_1) = true := decide_eq_true c4
      clear c4
      by_cases c5 : ((rd_T79 l0 x5_1).f0) = x1_1
      {
      rw [if_pos c5] at H
      have c5b0 : (((rd_T79 l0 x5_1).f0) == x1_1) = true := beq_iff_eq.mpr c5
      have c5b1 : (((rd_T79 l0 x5_1).f0) != x1_1) = false := bne_eq_false_iff_eq.mpr c5
      clear c5
      by_cases c6 : ((rd_T79 l0 x5_1).f1) = (wrap64 (x1_1 + 1))
      {
      rw [if_pos c6] at H
      have c6b0 : (((rd_T79 l0 x5_1).f1) == (wrap64 (x1_1 + 1))) = true := beq_iff_eq.mpr c6
      have c6b1 : (((rd_T79 l0 x5_1).f1) != (wrap64 (x1_1 + 1))) = false := bne_eq_false_iff_eq.mpr c6
      clear c6
      replace H := Option.bind_eq_some_iff.mp H
      obtain ⟨t273, A70, H⟩ := H
      replace H : (if t273 < 0 then (some (-1)) else (laws_heldPodS.l0 k1 l0 t273 (wrap64 (x5_1 + 1)))) = some r := H
      have A7 := Aside0.mk A70
      clear A70
      by_cases c8 : t273 < 0
      {
      rw [if_pos c8] at H
      have c8b0 : decide (t273 < 0) = true := decide_eq_true c8
      clear c8
      obtain rfl := Option.some.inj H
      simp only [Option.some.injEq, Prod.mk.injEq] at H
      obtain ⟨rfl⟩ := H
      have p270 : 0 ≤ (x5_1 : Int) := of_decide_eq_true qz3
      have q270 : x5_1 < (l0.length : Int) := of_decide_eq_true qz3
      obtain ⟨ad270, A270_2, c270_2, e270, hx270_0, hx270_1, hx270_2, hl270_2, hi270_2⟩ := at_T79 HR0.out x5_1 p270 q270
      cases e270
      have HR270_2 := Aside0.mk hi270_2
      have HC270_2 := Aside0.mk hl270_2
      clear hi270_2 hl270_2
      replace p270 := eq_true p270
      replace q270 := eq_true q270
      have p271 : 0 ≤ (x5_1 : Int) := of_decide_eq_true qz3
      have q271 : x5_1 < (l0.length : Int) := of_decide_eq_true qz3
      obtain ⟨ad271, A271_2, c271_2, e271, hx271_0, hx271_1, hx271_2, hl271_2, hi271_2⟩ := at_T79 HR0.out x5_1 p271 q271
      obtain rfl : ad270 = ad271 := (by injection e271)
      have HR271_2 := Aside0.mk hi271_2
      have HC271_2 := Aside0.mk hl271_2
      clear hi271_2 hl271_2
      replace p271 := eq_true p271
      replace q271 := eq_true q271
      have ea_ := Option.some.inj (hx270_2.symm.trans hx271_2)
      injection ea_ with ea_ en_ ec_
      subst ea_
      subst ec_
      clear en_
      have p272 : 0 ≤ (x5_1 : Int) := of_decide_eq_true qz3
      have q272 : x5_1 < (l0.length : Int) := of_decide_eq_true qz3
      obtain ⟨ad272, A272_2, c272_2, e272, hx272_0, hx272_1, hx272_2, hl272_2, hi272_2⟩ := at_T79 HR0.out x5_1 p272 q272
      obtain rfl : ad270 = ad272 := (by injection e272)
      have HR272_2 := Aside0.mk hi272_2
      have HC272_2 := Aside0.mk hl272_2
      clear hi272_2 hl272_2
      replace p272 := eq_true p272
      replace q272 := eq_true q272
      have ea_ := Option.some.inj (hx270_2.symm.trans hx272_2)
      injection ea_ with ea_ en_ ec_
      subst ea_
      subst ec_
      clear en_
      go_wp2_with (first | ((with_reducible refine gate_callee (f := 100) rfl ?_); refine goesL_ (some 36) rfl rfl Try.func100 (by kernel_rfl) rfl #[.slice A270_2 ((rd_T79 l0 x5_1).f2).length c270_2, .int .i64 (wrap64 ((wrap64 (x1_1 + 1)) + 1))] rfl qz2 ?_; (with_reducible refine (laws_heldStackS.calls k1 _ _ ((rd_T79 l0 x5_1).f2) (wrap64 ((wrap64 (x1_1 + 1)) + 1)) t273 _ ?side1 ?side2 A7.out).mono ?_); (case side1 => repeat (first | exact HR272_2.out | (with_reducible refine Kd.C_alloc ?_ _) | (with_reducible refine Kd.C_drewN ?_ _) | (with_reducible refine Kd.C_drew ?_))); (case side2 => exact HC272_2.out); rintro e w' ⟨rfl, ⟨nd, rfl⟩⟩; refine ⟨_, rfl, ?_⟩))
      go_ret
      exact ⟨by first | rfl | (simp; done) | (simp [*]; done), by repeat (first | exact Drawn0.refl _ | apply Drawn0.step)⟩
      }
      {
      rw [if_neg c8] at H
      have c8b0 : decide (t273 < 0) = false := decide_eq_false c8
      clear c8
      have H' := Aside0.mk H
      clear H
      have p270 : 0 ≤ (x5_1 : Int) := of_decide_eq_true qz3
      have q270 : x5_1 < (l0.length : Int) := of_decide_eq_true qz3
      obtain ⟨ad270, A270_2, c270_2, e270, hx270_0, hx270_1, hx270_2, hl270_2, hi270_2⟩ := at_T79 HR0.out x5_1 p270 q270
      cases e270
      have HR270_2 := Aside0.mk hi270_2
      have HC270_2 := Aside0.mk hl270_2
      clear hi270_2 hl270_2
      replace p270 := eq_true p270
      replace q270 := eq_true q270
      have p271 : 0 ≤ (x5_1 : Int) := of_decide_eq_true qz3
      have q271 : x5_1 < (l0.length : Int) := of_decide_eq_true qz3
      obtain ⟨ad271, A271_2, c271_2, e271, hx271_0, hx271_1, hx271_2, hl271_2, hi271_2⟩ := at_T79 HR0.out x5_1 p271 q271
      obtain rfl : ad270 = ad271 := (by injection e271)
      have HR271_2 := Aside0.mk hi271_2
      have HC271_2 := Aside0.mk hl271_2
      clear hi271_2 hl271_2
      replace p271 := eq_true p271
      replace q271 := eq_true q271
      have ea_ := Option.some.inj (hx270_2.symm.trans hx271_2)
      injection ea_ with ea_ en_ ec_
      subst ea_
      subst ec_
      clear en_
      have p272 : 0 ≤ (x5_1 : Int) := of_decide_eq_true qz3
      have q272 : x5_1 < (l0.length : Int) := of_decide_eq_true qz3
      obtain ⟨ad272, A272_2, c272_2, e272, hx272_0, hx272_1, hx272_2, hl272_2, hi272_2⟩ := at_T79 HR0.out x5_1 p272 q272
      obtain rfl : ad270 = ad272 := (by injection e272)
      have HR272_2 := Aside0.mk hi272_2
      have HC272_2 := Aside0.mk hl272_2
      clear hi272_2 hl272_2
      replace p272 := eq_true p272
      replace q272 := eq_true q272
      have ea_ := Option.some.inj (hx270_2.symm.trans hx272_2)
      injection ea_ with ea_ en_ ec_
      subst ea_
      subst ec_
      clear en_
      go_wp2_with (first | ((with_reducible refine gate_callee (f := 100) rfl ?_); refine goesL_ (some 36) rfl rfl Try.func100 (by kernel_rfl) rfl #[.slice A270_2 ((rd_T79 l0 x5_1).f2).length c270_2, .int .i64 (wrap64 ((wrap64 (x1_1 + 1)) + 1))] rfl qz2 ?_; (with_reducible refine (laws_heldStackS.calls k1 _ _ ((rd_T79 l0 x5_1).f2) (wrap64 ((wrap64 (x1_1 + 1)) + 1)) t273 _ ?side1 ?side2 A7.out).mono ?_); (case side1 => repeat (first | exact HR272_2.out | (with_reducible refine Kd.C_alloc ?_ _) | (with_reducible refine Kd.C_drewN ?_ _) | (with_reducible refine Kd.C_drew ?_))); (case side2 => exact HC272_2.out); rintro e w' ⟨rfl, ⟨nd, rfl⟩⟩; refine ⟨_, rfl, ?_⟩))
      go_roundg k1
      case measure => have := HK1.out; omega
      case rel => exact ⟨(t273), (wrap64 (x5_1 + 1)), qz6, qz6, H', ⟨by have := HK1.out; omega⟩, by repeat (first | exact Drawn0.refl _ | apply Drawn0.step)⟩
      }
      }
      {
      rw [if_neg c6] at H
      have c6b0 : (((rd_T79 l0 x5_1).f1) == (wrap64 (x1_1 + 1))) = false := beq_eq_false_iff_ne.mpr c6
      have c6b1 : (((rd_T79 l0 x5_1).f1) != (wrap64 (x1_1 + 1))) = true := bne_iff_ne.mpr c6
      obtain rfl := Option.some.inj H
      simp only [Option.some.injEq, Prod.mk.injEq] at H
      obtain ⟨rfl⟩ := H
      have p270 : 0 ≤ (x5_1 : Int) := of_decide_eq_true qz3
      have q270 : x5_1 < (l0.length : Int) := of_decide_eq_true qz3
      obtain ⟨ad270, A270_2, c270_2, e270, hx270_0, hx270_1, hx270_2, hl270_2, hi270_2⟩ := at_T79 HR0.out x5_1 p270 q270
      cases e270
      have HR270_2 := Aside0.mk hi270_2
      have HC270_2 := Aside0.mk hl270_2
      clear hi270_2 hl270_2
      replace p270 := eq_true p270
      replace q270 := eq_true q270
      have p271 : 0 ≤ (x5_1 : Int) := of_decide_eq_true qz3
      have q271 : x5_1 < (l0.length : Int) := of_decide_eq_true qz3
      obtain ⟨ad271, A271_2, c271_2, e271, hx271_0, hx271_1, hx271_2, hl271_2, hi271_2⟩ := at_T79 HR0.out x5_1 p271 q271
      obtain rfl : ad270 = ad271 := (by injection e271)
      have HR271_2 := Aside0.mk hi271_2
      have HC271_2 := Aside0.mk hl271_2
      clear hi271_2 hl271_2
      replace p271 := eq_true p271
      replace q271 := eq_true q271
      have ea_ := Option.some.inj (hx270_2.symm.trans hx271_2)
      injection ea_ with ea_ en_ ec_
      subst ea_
      subst ec_
      clear en_
      go_wp2
      go_ret
      exact ⟨by first | rfl | (simp; done) | (simp [*]; done), by repeat (first | exact Drawn0.refl _ | apply Drawn0.step)⟩
      }
      }
      {
      rw [if_neg c5] at H
      have c5b0 : (((rd_T79 l0 x5_1).f0) == x1_1) = false := beq_eq_false_iff_ne.mpr c5
      have c5b1 : (((rd_T79 l0 x5_1).f0) != x1_1) = true := bne_iff_ne.mpr c5
      obtain rfl := Option.some.inj H
      simp only [Option.some.injEq, Prod.mk.injEq] at H
      obtain ⟨rfl⟩ := H
      have p270 : 0 ≤ (x5_1 : Int) := of_decide_eq_true qz3
      have q270 : x5_1 < (l0.length : Int) := of_decide_eq_true qz3
      obtain ⟨ad270, A270_2, c270_2, e270, hx270_0, hx270_1, hx270_2, hl270_2, hi270_2⟩ := at_T79 HR0.out x5_1 p270 q270
      cases e270
      have HR270_2 := Aside0.mk hi270_2
      have HC270_2 := Aside0.mk hl270_2
      clear hi270_2 hl270_2
      replace p270 := eq_true p270
      replace q270 := eq_true q270
      go_wp2
      go_ret
      exact ⟨by first | rfl | (simp; done) | (simp [*]; done), by repeat (first | exact Drawn0.refl _ | apply Drawn0.step)⟩
      }
      }
      {
      rw [if_neg c4] at H
      exact absurd H (by simp)
      }
      }
      {
      rw [if_neg c3] at H
      have c3b0 : decide (x5_1 < (l0.length : Int)) = false := decide_eq_false c3
      clear c3
      obtain rfl := Option.some.inj H
      simp only [Option.some.injEq, Prod.mk.injEq] at H
      obtain ⟨rfl⟩ := H
      go_wp2
      go_ret
      exact ⟨by first | rfl | (simp; done) | (simp [*]; done), by repeat (first | exact Drawn0.refl _ | apply Drawn0.step)⟩

      }
/-! ### laws_heldStock: function 33 -/
def laws_heldStock.f (k : Nat) (l0_0 : List (S79)) (a1 : Int) : Option (Int) := (laws_heldPodS.f k l0_0 a1).bind fun t275 => (if t275 < 0 then (some (-1)) else (some t275))
theorem laws_heldStock.mono : ∀ a0 a1 k, LeO (laws_heldStock.f k a0 a1) (laws_heldStock.f (k + 1) a0 a1) := by
  intro a0 a1 k
  unfold laws_heldStock.f
  repeat' first
      | (with_reducible exact laws_heldPodS.mono _ _ _)
      | (with_reducible exact LeO.refl _)
      | (with_reducible exact LeO.none _)
      | (with_reducible refine LeO.ite ?_ ?_)
      | (with_reducible refine LeO.bind ?_ (fun _ => ?_))
      | exact laws_heldPodS.mono _ _ _
      | exact LeO.none _
      | refine LeO.ite ?_ ?_
      | refine LeO.bind ?_ (fun _ => ?_)
set_option maxHeartbeats 8000000 in
set_option maxRecDepth 100000 in
theorem laws_heldStock.calls (k : Nat) (A0_0 : Option Addr) (c0_0 : Nat) (l0_0 : List (S79)) (a1 : Int) (r : Int) (w : World) (hr0_0 : Kd.C k79 w A0_0 l0_0.length l0_0) (hc0_0 : l0_0.length ≤ c0_0) (h : laws_heldStock.f k l0_0 a1 = some r) :
    Calls Try.prog 33 #[.agg #[.slice A0_0 l0_0.length c0_0], .int .i64 a1] w fun e w' => e = .returned (.int .i64 r) ∧ Below w.heap.size w w' := by
  have hu26 := Try.underlying26
  have HR0_0 := Aside0.mk hr0_0
  have HC0_0 := Aside0.mk hc0_0
  clear hr0_0 hc0_0
  have HB := Aside0.mk (Below.refl w.heap.size w)
  have H : ((laws_heldPodS.f k l0_0 a1).bind fun t275 => (if t275 < 0 then (some (-1)) else (some t275))) = some r := h
  clear h
  replace H := Option.bind_eq_some_iff.mp H
  obtain ⟨t275, A30, H⟩ := H
  replace H : (if t275 < 0 then (some (-1)) else (some t275)) = some r := H
  have A3 := Aside0.mk A30
  clear A30
  by_cases c4 : t275 < 0
  {
  rw [if_pos c4] at H
  have c4b0 : decide (t275 < 0) = true := decide_eq_true c4
  clear c4
  obtain rfl := Option.some.inj H
  simp only [Option.some.injEq, Prod.mk.injEq] at H
  obtain ⟨rfl⟩ := H
  go_enter Try.func33, Try.ntmps33
  go_wp2_with (first | ((with_reducible refine gate_dst (N := 2) rfl ?_); refine box_event ?hg (N := 2) ?hd (cs := #[.slice A0_0 l0_0.length c0_0]) (t := 26) ?hr ?_; (case hd => rfl); (case hg => rfl); (case hr => first | (go_simp; done) | (go_simp; rfl)); intro gb274 hg w5 hbox hb; have n0_ := Aside0.mk (below_step qz1 hb); have n1_ := Aside0.mk (hbox); have n2_ := Aside0.mk ((by rw [hg]; exact (below_size qz1) : w.heap.size ≤ gb274)); have n3_ := Aside0.mk ((by rw [hg]; exact (below_size qz1) : w.heap.size ≤ gb274)); clear HB; have HB := n0_; have BK274 := n1_; have GW274 := n2_; have GE274 := n3_; clear n0_ n1_ n2_ n3_; clear hb hbox hg; have hcz6_0 : w5.cell? ⟨gb274, 0, none⟩ = some (.slice A0_0 l0_0.length c0_0) := (blk_cell BK274.out 0).trans rfl; have hfz6_0 := blk_frozen BK274.out 0) | ((with_reducible refine gate_callee (f := 74) rfl ?_); refine goesL_ (some 8) rfl rfl Try.func74 (by kernel_rfl) rfl #[.slice A0_0 l0_0.length c0_0, .int .i64 a1] rfl qz2 ?_; (with_reducible refine (laws_heldPodS.calls k _ _ l0_0 a1 t275 _ ?side1 ?side2 A3.out).mono ?_); (case side1 => repeat (first | exact (Kd.C_below HR0_0.out HB.out) | (with_reducible refine Kd.C_alloc ?_ _) | (with_reducible refine Kd.C_drewN ?_ _) | (with_reducible refine Kd.C_drew ?_))); (case side2 => exact HC0_0.out); rintro e w' ⟨rfl, ⟨nd, rfl⟩⟩; refine ⟨_, rfl, ?_⟩))
  go_ret
  exact ⟨by first | rfl | (simp [errW_none, errW_some] <;> rfl) | (simp [*, errW_none, errW_some] <;> rfl), by repeat (first | (with_reducible first | exact HB.out | apply below_alloc | apply pw_below_drewN | apply below_drew1 | refine below_set ?_ GE274.out) | exact HB.out)⟩
  }
  {
  rw [if_neg c4] at H
  have c4b0 : decide (t275 < 0) = false := decide_eq_false c4
  clear c4
  obtain rfl := Option.some.inj H
  simp only [Option.some.injEq, Prod.mk.injEq] at H
  obtain ⟨rfl⟩ := H
  go_enter Try.func33, Try.ntmps33
  go_wp2_with (first | ((with_reducible refine gate_dst (N := 2) rfl ?_); refine box_event ?hg (N := 2) ?hd (cs := #[.slice A0_0 l0_0.length c0_0]) (t := 26) ?hr ?_; (case hd => rfl); (case hg => rfl); (case hr => first | (go_simp; done) | (go_simp; rfl)); intro gb274 hg w7 hbox hb; have n0_ := Aside0.mk (below_step qz1 hb); have n1_ := Aside0.mk (hbox); have n2_ := Aside0.mk ((by rw [hg]; exact (below_size qz1) : w.heap.size ≤ gb274)); have n3_ := Aside0.mk ((by rw [hg]; exact (below_size qz1) : w.heap.size ≤ gb274)); clear HB; have HB := n0_; have BK274 := n1_; have GW274 := n2_; have GE274 := n3_; clear n0_ n1_ n2_ n3_; clear hb hbox hg; have hcz8_0 : w7.cell? ⟨gb274, 0, none⟩ = some (.slice A0_0 l0_0.length c0_0) := (blk_cell BK274.out 0).trans rfl; have hfz8_0 := blk_frozen BK274.out 0) | ((with_reducible refine gate_callee (f := 74) rfl ?_); refine goesL_ (some 8) rfl rfl Try.func74 (by kernel_rfl) rfl #[.slice A0_0 l0_0.length c0_0, .int .i64 a1] rfl qz2 ?_; (with_reducible refine (laws_heldPodS.calls k _ _ l0_0 a1 t275 _ ?side1 ?side2 A3.out).mono ?_); (case side1 => repeat (first | exact (Kd.C_below HR0_0.out HB.out) | (with_reducible refine Kd.C_alloc ?_ _) | (with_reducible refine Kd.C_drewN ?_ _) | (with_reducible refine Kd.C_drew ?_))); (case side2 => exact HC0_0.out); rintro e w' ⟨rfl, ⟨nd, rfl⟩⟩; refine ⟨_, rfl, ?_⟩))
  go_ret
  exact ⟨by first | rfl | (simp [errW_none, errW_some] <;> rfl) | (simp [*, errW_none, errW_some] <;> rfl), by repeat (first | (with_reducible first | exact HB.out | apply below_alloc | apply pw_below_drewN | apply below_drew1 | refine below_set ?_ GE274.out) | exact HB.out)⟩

  }
/-! ### laws_FnExactPutIn: function 5 -/
def laws_FnExactPutIn.f (k : Nat) (l : List S117) (a1 a2 a3 : Int) : Option Bool :=
  (laws_szStock.f k l 1048576).bind fun t => if t < 0 then some true else
    (laws_toStock.f k l).bind fun x => (spec_PutIn.f k x a1 a2 a3).bind fun w0 => (impl_PutIn.f k x a1 a2 a3).bind fun g =>
    (laws_eqStock.f k g.1 w0.1).bind fun e1 => (laws_eqStock.f k x x).bind fun e2 => (laws_markStock.f k x 1).bind fun m1 => (laws_markStock.f k g.1 1).bind fun m2 => (laws_heldStock.f k m2.2 1).bind fun q =>
      if e1 = true ∧ g.2 = w0.2 ∧ e2 = true ∧ ¬ m1.1 < 0 ∧ ¬ q < 0 ∧ q = m2.1 then some true else none
theorem laws_FnExactPutIn.mono : ∀ l a1 a2 a3 k, LeO (laws_FnExactPutIn.f k l a1 a2 a3) (laws_FnExactPutIn.f (k + 1) l a1 a2 a3) := by
  intro l a1 a2 a3 k
  unfold laws_FnExactPutIn.f
  repeat' first
      | (with_reducible exact laws_szStock.mono _ _ _)
      | (with_reducible exact laws_toStock.mono _ _)
      | (with_reducible exact spec_PutIn.mono _ _ _ _ _)
      | (with_reducible exact impl_PutIn.mono _ _ _ _ _)
      | (with_reducible exact laws_eqStock.mono _ _ _)
      | (with_reducible exact laws_markStock.mono _ _ _)
      | (with_reducible exact laws_heldStock.mono _ _ _)
      | (with_reducible exact LeO.refl _)
      | (with_reducible exact LeO.none _)
      | (with_reducible refine LeO.ite ?_ ?_)
      | (with_reducible refine LeO.bind ?_ (fun _ => ?_))
def laws_FnExactPutIn.T10 : Bool × List (List Nat × List Nat) := (true, [([], []), ([], []), ([1], [1]), ([0, 2, 2], [0, 2]), ([3], [3])])
def laws_FnExactPutIn.B10 : List Nat := [0, 0, 2, 7, 15]
theorem laws_FnExactPutIn.tab10 : rtab .any (opsOf Try.f5 10) = laws_FnExactPutIn.T10 := by kernel_rfl
theorem laws_FnExactPutIn.bits10 : waitsOk laws_FnExactPutIn.T10.2 laws_FnExactPutIn.B10 = true := by kernel_rfl
set_option maxHeartbeats 8000000 in
set_option maxRecDepth 100000 in
theorem laws_FnExactPutIn.calls (k : Nat) (A0_0 : Option Addr) (c0_0 : Nat) (l0_0 : List S117) (a1 a2 a3 : Int) (r : Bool) (w : World) (hr0_0 : Kd.C k117 w A0_0 l0_0.length l0_0) (hc0_0 : l0_0.length ≤ c0_0) (hT : r = true) (h : laws_FnExactPutIn.f k l0_0 a1 a2 a3 = some r) :
    Calls Try.prog 5 #[.agg #[.slice A0_0 l0_0.length c0_0], .int .i64 a1, .int .i64 a2, .int .i64 a3] w fun e w' => e = .returned (.bool r) ∧ Below w.heap.size w w' := by
  subst hT
  have hu36 := Try.underlying36
  have hu26 := Try.underlying26
  unfold laws_FnExactPutIn.f at h
  replace h := Option.bind_eq_some_iff.mp h
  obtain ⟨t, ht, h⟩ := h
  have HT := Aside0.mk ht
  have HR := Aside0.mk hr0_0
  have HC := Aside0.mk hc0_0
  have HB := Aside0.mk (Below.refl w.heap.size w)
  clear ht hr0_0 hc0_0
  by_cases c1 : t < 0
  {
  have c1b := decide_eq_true c1
  clear h c1
  go_enter Try.func5, Try.ntmps5
  go_wp2_with (first
    | (go_at_call 29; refine (laws_szStock.calls k _ _ l0_0 1048576 t _ (Kd.C_alloc HR.out _) HC.out HT.out).mono ?_; rintro e w1 ⟨rfl, hb⟩; replace HB := Aside0.mk (below_step (below_alloc HB.out _) hb); clear hb))
  go_ret
  exact ⟨rfl, HB.out⟩
  }
  rw [if_neg c1] at h
  have c1b := decide_eq_false c1
  clear c1
  replace h := Option.bind_eq_some_iff.mp h
  obtain ⟨x, hx, h⟩ := h
  replace h := Option.bind_eq_some_iff.mp h
  obtain ⟨⟨v1, v2⟩, hv, h⟩ := h
  replace h := Option.bind_eq_some_iff.mp h
  obtain ⟨⟨g1, g2⟩, hg, h⟩ := h
  replace h := Option.bind_eq_some_iff.mp h
  obtain ⟨e1, he1, h⟩ := h
  replace h := Option.bind_eq_some_iff.mp h
  obtain ⟨e2, he2, h⟩ := h
  replace h := Option.bind_eq_some_iff.mp h
  obtain ⟨⟨m1, x'⟩, hm1, h⟩ := h
  replace h := Option.bind_eq_some_iff.mp h
  obtain ⟨⟨m2, g'⟩, hm2, h⟩ := h
  replace h := Option.bind_eq_some_iff.mp h
  obtain ⟨q, hq, h⟩ := h
  dsimp only at h he1 hm2 hq
  have hall : e1 = true ∧ g2 = v2 ∧ e2 = true ∧ ¬ m1 < 0 ∧ ¬ q < 0 ∧ q = m2 := Decidable.byContradiction fun hn => by rw [if_neg hn] at h; cases h
  clear h
  obtain ⟨rfl, rfl, rfl, c2, c3, rfl⟩ := hall
  have c2b := decide_eq_false c2
  have c3b := decide_eq_false c3
  have HX0 := Aside0.mk hx
  have HV := Aside0.mk hv
  have HG0 := Aside0.mk hg
  have HE1 := Aside0.mk he1
  have HE2 := Aside0.mk he2
  have HM1 := Aside0.mk hm1
  have HM2 := Aside0.mk hm2
  have HQ := Aside0.mk hq
  clear c2 c3 hx hv hg he1 he2 hm1 hm2 hq
  have ST0 := Aside0.mk trivial
  go_enter Try.func5, Try.ntmps5
  go_wp2_with (first
    | (go_at_call 29; have hst := ST0; clear hst ST0; refine (laws_szStock.calls k _ _ l0_0 1048576 t _ (Kd.C_alloc HR.out _) HC.out HT.out).mono ?_; rintro e w0 ⟨rfl, hb⟩; have C4 : w0.cell? ⟨w.heap.size, 0, none⟩ = some (.slice A0_0 l0_0.length c0_0) := (blk_cell (blk_below (blk_new w (.cells #[.slice A0_0 l0_0.length c0_0] 36)) hb) 0).trans rfl; have L4 := blk_lt (blk_below (blk_new w (.cells #[.slice A0_0 l0_0.length c0_0] 36)) hb); replace HB := Aside0.mk (below_step (below_alloc HB.out _) hb); clear hb; have ST1 := Aside0.mk trivial)
    | (go_at_call 30; have hst := ST1; clear hst ST1; refine (laws_toStock.calls k _ _ l0_0 x _ (Kd.C_below HR.out HB.out) HC.out HX0.out).mono ?_; rintro e w1 ⟨v0, rfl, hS, hU⟩; obtain ⟨A1, c1, rfl⟩ := Kd.S_slice hS; replace C4 := pw_cell_below hU C4; replace L4 := Nat.lt_of_lt_of_le L4 (below_size hU); replace HB := Aside0.mk (below_step HB.out hU); have HS1 := Aside0.mk (Kd.S_reads' hS); clear hS hU; have ST2 := Aside0.mk trivial)
    | (go_at_call 26; have hst := ST2; clear hst ST2; refine (spec_PutIn.calls k _ _ x a1 a2 a3 v1 g2 _ HS1.out.2.2 HS1.out.2.1 HV.out).mono ?_; rintro e w2 ⟨v0, rfl, hS, hU⟩; obtain ⟨A2, c2, rfl⟩ := Kd.S_slice hS; replace C4 := pw_cell_below hU C4; replace L4 := Nat.lt_of_lt_of_le L4 (below_size hU); replace HB := Aside0.mk (below_step HB.out hU); have HN := Aside0.mk (Kd.S_old hS (Below.refl _ _)); clear hS hU HS1; have HZ4 := Aside0.mk L4; have ST3 := Aside0.mk trivial)
    | (go_at_call 30; have hst := ST3; clear hst ST3; refine (laws_toStock.calls k _ _ l0_0 x _ (Kd.C_below HR.out (below_alloc HB.out _)) HC.out HX0.out).mono ?_; rintro e w3 ⟨v0, rfl, hS, hb⟩; obtain ⟨A3, c3, rfl⟩ := Kd.S_slice hS; have hU := below_step (below_alloc (Below.refl w2.heap.size w2) _) hb; have C10 : w3.cell? ⟨w2.heap.size, 0, none⟩ = some (.slice A2 v1.length c2) := (blk_cell (blk_below (blk_new w2 (.cells #[.slice A2 v1.length c2] 26)) hb) 0).trans rfl; have L10 := blk_lt (blk_below (blk_new w2 (.cells #[.slice A2 v1.length c2] 26)) hb); replace C4 := pw_cell_below hU C4; replace L4 := Nat.lt_of_lt_of_le L4 (below_size hU); replace HN := Aside0.mk (Kd.S_below HN.out hU); replace HB := Aside0.mk (below_step HB.out hU); have HX := Aside0.mk (show Kd.S k79 79 w3 (w2.heap.size + 1) (fun k => w2.heap.size + 1 ≤ k ∧ k < w3.heap.size) (.slice A3 x.length c3) x by have h9 := Kd.S_mono (ok' := fun k => (w2.alloc (.cells #[.slice A2 v1.length c2] 26)).heap.size ≤ k ∧ k < w3.heap.size) (Kd.S_bound hS) (fun k hk => ⟨hk.2.1, hk.2.2.1⟩); rw [World.size_alloc] at h9; exact h9); clear hS hU hb; have ST4 := Aside0.mk trivial)
    | (go_at_call 25; have hst := ST4; clear hst ST4; refine (impl_PutIn.calls k _ _ x a1 a2 a3 g1 g2 _ (Kd.S_reads' (Kd.S_alloc HX.out _)).2.2 (Kd.S_reads' HX.out).2.1 HG0.out).mono ?_; rintro e w4 ⟨v0, rfl, hS, hb⟩; obtain ⟨A4, c4, rfl⟩ := Kd.S_slice hS; have hU := below_step (below_alloc (Below.refl w3.heap.size w3) _) hb; have C12 : w4.cell? ⟨w3.heap.size, 0, none⟩ = some (.slice A3 x.length c3) := (blk_cell (blk_below (blk_new w3 (.cells #[.slice A3 x.length c3] 26)) hb) 0).trans rfl; have L12 := blk_lt (blk_below (blk_new w3 (.cells #[.slice A3 x.length c3] 26)) hb); have Z3 := Aside0.mk (show w.heap.size < w2.heap.size ∧ w2.heap.size < w3.heap.size ∧ w3.heap.size < w4.heap.size from ⟨HZ4.out, L10, L12⟩); replace C4 := pw_cell_below hU C4; replace L4 := Nat.lt_of_lt_of_le L4 (below_size hU); replace C10 := pw_cell_below hU C10; replace L10 := Nat.lt_of_lt_of_le L10 (below_size hU); replace HN := Aside0.mk (Kd.S_below HN.out hU); replace HX := Aside0.mk (Kd.S_below HX.out hU); replace HB := Aside0.mk (below_step HB.out hU); have HG := Aside0.mk (show Kd.S k79 79 w4 (w3.heap.size + 1) (fun k => w3.heap.size + 1 ≤ k ∧ k < w4.heap.size) (.slice A4 g1.length c4) g1 by have h9 := Kd.S_mono (ok' := fun k => (w3.alloc (.cells #[.slice A3 x.length c3] 26)).heap.size ≤ k ∧ k < w4.heap.size) (Kd.S_bound hS) (fun k hk => ⟨hk.2.1, hk.2.2.1⟩); rw [World.size_alloc] at h9; exact h9); clear hS hU hb; have ST5 := Aside0.mk trivial)
    | (go_at_call 31; have hst := ST5; clear hst ST5; refine (laws_eqStock.calls k _ _ g1 _ _ v1 true _ (Kd.S_reads' (Kd.S_alloc HG.out _)).2.2 (Kd.S_reads' HG.out).2.1 (Kd.S_reads' (Kd.S_alloc HN.out _)).2.2 (Kd.S_reads' HN.out).2.1 HE1.out).mono ?_; rintro e w5 ⟨rfl, hb⟩; have hU := below_step (below_alloc (Below.refl w4.heap.size w4) _) hb; have C13 : w5.cell? ⟨w4.heap.size, 0, none⟩ = some (.slice A4 g1.length c4) := (blk_cell (blk_below (blk_new w4 (.cells #[.slice A4 g1.length c4] 26)) hb) 0).trans rfl; have L13 := blk_lt (blk_below (blk_new w4 (.cells #[.slice A4 g1.length c4] 26)) hb); replace C4 := pw_cell_below hU C4; replace L4 := Nat.lt_of_lt_of_le L4 (below_size hU); replace C10 := pw_cell_below hU C10; replace L10 := Nat.lt_of_lt_of_le L10 (below_size hU); replace C12 := pw_cell_below hU C12; replace L12 := Nat.lt_of_lt_of_le L12 (below_size hU); replace HN := Aside0.mk (Kd.S_below HN.out hU); replace HX := Aside0.mk (Kd.S_below HX.out hU); replace HG := Aside0.mk (Kd.S_below HG.out hU); replace HB := Aside0.mk (below_step HB.out hU); clear hU hb; have ST6 := Aside0.mk trivial))
  refine start_ (n := 5) (S := fun w' => w'.cell? ⟨w3.heap.size, 0, none⟩ = some (.slice A3 x.length c3) ∧ w'.cell? ⟨w.heap.size, 0, none⟩ = some (.slice A0_0 l0_0.length c0_0)) (ds := []) #[false, false, false, false, false] (by kernel_rfl) rfl rfl ⟨C12, C4⟩ (fun hHeld => ?_); refine with_tabW laws_FnExactPutIn.tab10 laws_FnExactPutIn.bits10 (fun HT_ HW_ => ?_)
  refine take_ (i := 0) (N := some 53) (v := ?_) (a' := ?_) #[true, false, false, false, false] rfl rfl qzb qzd (Or.inl ⟨by rfl, ?_⟩) hHeld ?_ ?_
  rotate_left
  {
  rintro w' ⟨s0, s1⟩
  go_simp
  with_reducible rfl
  }
  rotate_left
  {
  simp only [qzs]
  rfl
  }
  refine take_ (i := 1) (N := some 54) (v := ?_) (a' := ?_) #[true, true, false, false, false] rfl rfl qzb qzd (Or.inl ⟨by rfl, ?_⟩) hHeld ?_ ?_
  rotate_left
  {
  rintro w' ⟨s0, s1⟩
  go_simp
  with_reducible rfl
  }
  rotate_left
  {
  simp only [qzs]
  rfl
  }
  refine one_ (i := 2) (N := some 55) #[true, true, true, false, false] rfl rfl qzc (by decide) (fun K hK => ?_)
  refine goes_ Try.func30 (by kernel_rfl) rfl #[.agg #[.slice A0_0 l0_0.length c0_0]] (by rfl) rfl rfl (by (try simp only [List.map_toArray, List.map_cons, List.map_nil]); first | done | rfl) ?_
  refine (laws_toStock.calls k _ _ l0_0 x _ (Kd.C_below HR.out (below_drew HB.out)) HC.out HX0.out).mono ?_
  rintro e w6 ⟨v0, rfl, hS, hb⟩; obtain ⟨A6, c6, rfl⟩ := Kd.S_slice hS
  refine ⟨_, rfl, ?_⟩
  refine hK.out _ _ ⟨pw_cell_below hb hHeld.1, pw_cell_below hb hHeld.2⟩ (fun hHeld => ?_)
  clear hK K
  refine norm_ (a' := ?_) ?_ ?_
  rotate_left
  {
  show Act.put _ (some 55) _ = _
  simp only [qzs]
  rfl
  }
  have hU := below_step (below_drew (Below.refl w5.heap.size w5)) hb
  clear hb
  replace C4 := pw_cell_below hU C4
  replace L4 := Nat.lt_of_lt_of_le L4 (below_size hU)
  replace C10 := pw_cell_below hU C10
  replace L10 := Nat.lt_of_lt_of_le L10 (below_size hU)
  replace C12 := pw_cell_below hU C12
  replace L12 := Nat.lt_of_lt_of_le L12 (below_size hU)
  replace C13 := pw_cell_below hU C13
  replace L13 := Nat.lt_of_lt_of_le L13 (below_size hU)
  replace HN := Aside0.mk (Kd.S_below HN.out hU)
  replace HX := Aside0.mk (Kd.S_below HX.out hU)
  replace HG := Aside0.mk (Kd.S_below HG.out hU)
  replace HB := Aside0.mk (below_step HB.out hU)
  clear hU
  refine one_ (i := 3) (N := some 56) #[true, true, true, true, false] rfl rfl qzc (by decide) (fun K hK => ?_)
  refine goes_ Try.func31 (by kernel_rfl) rfl #[.agg #[.slice A3 x.length c3], .agg #[.slice A6 x.length c6]] (by rfl) rfl rfl (by (try simp only [List.map_toArray, List.map_cons, List.map_nil]); first | done | rfl) ?_
  refine (laws_eqStock.calls k _ _ x _ _ x true _ (Kd.S_reads' HX.out).2.2 (Kd.S_reads' HX.out).2.1 (Kd.S_reads' hS).2.2 (Kd.S_reads' hS).2.1 HE2.out).mono ?_
  rintro e w7 ⟨rfl, hb⟩
  refine ⟨_, rfl, ?_⟩
  refine hK.out _ _ ⟨pw_cell_below hb hHeld.1, pw_cell_below hb hHeld.2⟩ (fun hHeld => ?_)
  clear hK K
  refine norm_ (a' := ?_) ?_ ?_
  rotate_left
  {
  show Act.put _ (some 56) _ = _
  simp only [qzs]
  rfl
  }
  refine pure_ (i := 4) (N := some 57) (v := ?_) (a' := ?_) #[true, true, true, true, true] rfl rfl qza qzd (Or.inl ⟨by rfl, ?_⟩) ?_ ?_
  rotate_left
  {
  intro w'
  go_simp
  with_reducible rfl
  }
  rotate_left
  {
  simp only [qzs]
  rfl
  }
  refine done_ (done_of HT_.out (by kernel_rfl)) ?_
  clear hHeld HT_ HW_ hS
  have hU := hb
  clear hb
  replace C4 := pw_cell_below hU C4
  replace L4 := Nat.lt_of_lt_of_le L4 (below_size hU)
  replace C10 := pw_cell_below hU C10
  replace L10 := Nat.lt_of_lt_of_le L10 (below_size hU)
  replace C12 := pw_cell_below hU C12
  replace L12 := Nat.lt_of_lt_of_le L12 (below_size hU)
  replace C13 := pw_cell_below hU C13
  replace L13 := Nat.lt_of_lt_of_le L13 (below_size hU)
  replace HN := Aside0.mk (Kd.S_below HN.out hU)
  replace HX := Aside0.mk (Kd.S_below HX.out hU)
  replace HG := Aside0.mk (Kd.S_below HG.out hU)
  replace HB := Aside0.mk (below_step HB.out hU)
  clear hU
  go_wp2_with (first
    | (go_at_call 32; have hst := ST6; clear hst ST6; refine (laws_markStock.calls k (fun k => w2.heap.size + 1 ≤ k ∧ k < w3.heap.size) _ x 1 m1 x' w _ HB.out (Kd.S_lower HX.out (show w.heap.size ≤ w2.heap.size + 1 by have := Z3.out; omega)) HM1.out).mono ?_; rintro e w8 ⟨rfl, hS, hB, hk⟩; replace C4 := cell_kept C4 hk (by have := Z3.out; intro h; have h : _ ∧ _ := h; (try simp only at h); omega); replace L4 := Nat.lt_of_lt_of_le L4 hk.1; replace C10 := cell_kept C10 hk (by have := Z3.out; intro h; have h : _ ∧ _ := h; (try simp only at h); omega); replace L10 := Nat.lt_of_lt_of_le L10 hk.1; replace C12 := cell_kept C12 hk (by have := Z3.out; intro h; have h : _ ∧ _ := h; (try simp only at h); omega); replace L12 := Nat.lt_of_lt_of_le L12 hk.1; replace C13 := cell_kept C13 hk (by have := Z3.out; intro h; have h : _ ∧ _ := h; (try simp only at h); omega); replace L13 := Nat.lt_of_lt_of_le L13 hk.1; replace HN := Aside0.mk (Kd.S_kept HN.out hk (by have := Z3.out; intro k_ h1 h2; have h1 : _ ∧ _ := h1; have h2 : _ ∧ _ := h2; (try simp only at h1 h2); omega)); replace HG := Aside0.mk (Kd.S_kept HG.out hk (by have := Z3.out; intro k_ h1 h2; have h1 : _ ∧ _ := h1; have h2 : _ ∧ _ := h2; (try simp only at h1 h2); omega)); replace HB := Aside0.mk hB; clear HX hS hB hk; have ST7 := Aside0.mk trivial)
    | (go_at_call 31; have hst := ST7; clear hst ST7; refine (laws_eqStock.calls k _ _ g1 _ _ v1 true _ (Kd.S_reads' HG.out).2.2 (Kd.S_reads' HG.out).2.1 (Kd.S_reads' HN.out).2.2 (Kd.S_reads' HN.out).2.1 HE1.out).mono ?_; rintro e w9 ⟨rfl, hU⟩; replace C4 := pw_cell_below hU C4; replace L4 := Nat.lt_of_lt_of_le L4 (below_size hU); replace C10 := pw_cell_below hU C10; replace L10 := Nat.lt_of_lt_of_le L10 (below_size hU); replace C12 := pw_cell_below hU C12; replace L12 := Nat.lt_of_lt_of_le L12 (below_size hU); replace C13 := pw_cell_below hU C13; replace L13 := Nat.lt_of_lt_of_le L13 (below_size hU); replace HN := Aside0.mk (Kd.S_below HN.out hU); replace HG := Aside0.mk (Kd.S_below HG.out hU); replace HB := Aside0.mk (below_step HB.out hU); clear hU; have ST8 := Aside0.mk trivial)
    | (go_at_call 32; have hst := ST8; clear hst ST8; refine (laws_markStock.calls k (fun k => w3.heap.size + 1 ≤ k ∧ k < w4.heap.size) _ g1 1 q g' w _ HB.out (Kd.S_lower HG.out (show w.heap.size ≤ w3.heap.size + 1 by have := Z3.out; omega)) HM2.out).mono ?_; rintro e w10 ⟨rfl, hS, hB, hk⟩; replace C4 := cell_kept C4 hk (by have := Z3.out; intro h; have h : _ ∧ _ := h; (try simp only at h); omega); replace L4 := Nat.lt_of_lt_of_le L4 hk.1; replace C10 := cell_kept C10 hk (by have := Z3.out; intro h; have h : _ ∧ _ := h; (try simp only at h); omega); replace L10 := Nat.lt_of_lt_of_le L10 hk.1; replace C12 := cell_kept C12 hk (by have := Z3.out; intro h; have h : _ ∧ _ := h; (try simp only at h); omega); replace L12 := Nat.lt_of_lt_of_le L12 hk.1; replace C13 := cell_kept C13 hk (by have := Z3.out; intro h; have h : _ ∧ _ := h; (try simp only at h); omega); replace L13 := Nat.lt_of_lt_of_le L13 hk.1; replace HN := Aside0.mk (Kd.S_kept HN.out hk (by have := Z3.out; intro k_ h1 h2; have h1 : _ ∧ _ := h1; have h2 : _ ∧ _ := h2; (try simp only at h1 h2); omega)); replace HB := Aside0.mk hB; replace HG := Aside0.mk hS; clear hS hB hk; have hl9 := Aside0.mk (Kd.S_reads' HG.out).1; have ST9 := Aside0.mk trivial)
    | (go_at_call 33; have hst := ST9; clear hst ST9; have e9 := hl9.out; have h9 := Kd.S_reads' HG.out; rw [e9] at h9; rw [e9]; refine (laws_heldStock.calls k _ _ g' 1 q _ h9.2.2 h9.2.1 HQ.out).mono ?_; rw [← e9]; rintro e w11 ⟨rfl, hU⟩; clear h9 e9; replace C4 := pw_cell_below hU C4; replace L4 := Nat.lt_of_lt_of_le L4 (below_size hU); replace C10 := pw_cell_below hU C10; replace L10 := Nat.lt_of_lt_of_le L10 (below_size hU); replace C12 := pw_cell_below hU C12; replace L12 := Nat.lt_of_lt_of_le L12 (below_size hU); replace C13 := pw_cell_below hU C13; replace L13 := Nat.lt_of_lt_of_le L13 (below_size hU); replace HN := Aside0.mk (Kd.S_below HN.out hU); replace HG := Aside0.mk (Kd.S_below HG.out hU); replace HB := Aside0.mk (below_step HB.out hU); clear hU; have ST10 := Aside0.mk trivial)
    | (go_at_call 30; have hst := ST10; clear hst ST10; refine (laws_toStock.calls k _ _ l0_0 x _ (Kd.C_below HR.out HB.out) HC.out HX0.out).mono ?_; rintro e w12 ⟨v0, rfl, hS, hU⟩; obtain ⟨A12, c12, rfl⟩ := Kd.S_slice hS; replace C4 := pw_cell_below hU C4; replace L4 := Nat.lt_of_lt_of_le L4 (below_size hU); replace C10 := pw_cell_below hU C10; replace L10 := Nat.lt_of_lt_of_le L10 (below_size hU); replace C12 := pw_cell_below hU C12; replace L12 := Nat.lt_of_lt_of_le L12 (below_size hU); replace C13 := pw_cell_below hU C13; replace L13 := Nat.lt_of_lt_of_le L13 (below_size hU); replace HN := Aside0.mk (Kd.S_below HN.out hU); replace HG := Aside0.mk (Kd.S_below HG.out hU); replace HB := Aside0.mk (below_step HB.out hU); have HS1 := Aside0.mk (Kd.S_reads' hS); clear hS hU; have ST11 := Aside0.mk trivial)
    | (go_at_call 25; have hst := ST11; clear hst ST11; refine (impl_PutIn.calls k _ _ x a1 a2 a3 g1 g2 _ HS1.out.2.2 HS1.out.2.1 HG0.out).mono ?_; rintro e w13 ⟨v0, rfl, hS, hU⟩; obtain ⟨A13, c13, rfl⟩ := Kd.S_slice hS; replace C4 := pw_cell_below hU C4; replace L4 := Nat.lt_of_lt_of_le L4 (below_size hU); replace C10 := pw_cell_below hU C10; replace L10 := Nat.lt_of_lt_of_le L10 (below_size hU); replace C12 := pw_cell_below hU C12; replace L12 := Nat.lt_of_lt_of_le L12 (below_size hU); replace C13 := pw_cell_below hU C13; replace L13 := Nat.lt_of_lt_of_le L13 (below_size hU); replace HN := Aside0.mk (Kd.S_below HN.out hU); replace HG := Aside0.mk (Kd.S_below HG.out hU); replace HB := Aside0.mk (below_step HB.out hU); have HH := Aside0.mk hS; clear hS hU HS1; have ST12 := Aside0.mk trivial)
    | (go_at_call 31; have hst := ST12; clear hst ST12; refine (laws_eqStock.calls k _ _ g1 _ _ v1 true _ (Kd.S_reads' (Kd.S_alloc HH.out _)).2.2 (Kd.S_reads' HH.out).2.1 (Kd.S_reads' (Kd.S_alloc HN.out _)).2.2 (Kd.S_reads' HN.out).2.1 HE1.out).mono ?_; rintro e w14 ⟨rfl, hb⟩; have hU := below_step (below_alloc (Below.refl w13.heap.size w13) _) hb; replace C4 := pw_cell_below hU C4; replace L4 := Nat.lt_of_lt_of_le L4 (below_size hU); replace C10 := pw_cell_below hU C10; replace L10 := Nat.lt_of_lt_of_le L10 (below_size hU); replace C12 := pw_cell_below hU C12; replace L12 := Nat.lt_of_lt_of_le L12 (below_size hU); replace C13 := pw_cell_below hU C13; replace L13 := Nat.lt_of_lt_of_le L13 (below_size hU); replace HN := Aside0.mk (Kd.S_below HN.out hU); replace HG := Aside0.mk (Kd.S_below HG.out hU); replace HH := Aside0.mk (Kd.S_below HH.out hU); replace HB := Aside0.mk (below_step HB.out hU); clear hU hb; have ST13 := Aside0.mk trivial)
    | (go_at_call 33; have hst := ST13; clear hst ST13; have e9 := hl9.out; have h9 := Kd.S_reads' HG.out; rw [e9] at h9; rw [e9]; refine (laws_heldStock.calls k _ _ g' 1 q _ h9.2.2 h9.2.1 HQ.out).mono ?_; rw [← e9]; rintro e w15 ⟨rfl, hU⟩; clear h9 e9; replace C4 := pw_cell_below hU C4; replace L4 := Nat.lt_of_lt_of_le L4 (below_size hU); replace C10 := pw_cell_below hU C10; replace L10 := Nat.lt_of_lt_of_le L10 (below_size hU); replace C12 := pw_cell_below hU C12; replace L12 := Nat.lt_of_lt_of_le L12 (below_size hU); replace C13 := pw_cell_below hU C13; replace L13 := Nat.lt_of_lt_of_le L13 (below_size hU); replace HN := Aside0.mk (Kd.S_below HN.out hU); replace HG := Aside0.mk (Kd.S_below HG.out hU); replace HH := Aside0.mk (Kd.S_below HH.out hU); replace HB := Aside0.mk (below_step HB.out hU); clear hU; have ST14 := Aside0.mk trivial))
  go_ret
  exact ⟨rfl, HB.out⟩

end Go.Proofs.Yteajnkondkfmgaa.PFnExactPutIn
