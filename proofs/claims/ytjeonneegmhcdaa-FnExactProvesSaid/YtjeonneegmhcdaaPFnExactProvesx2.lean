-- Made by a program of this session out of the translation. Lean checks it.
import Derived.Test.YtjeonneegmhcdaaPFnExactProvesx0
import Derived.Test.YtjeonneegmhcdaaPFnExactProvesx1
namespace Go.Proofs.Ytjeonneegmhcdaa.PFnExactProves
open Go.RowKit Go.Proofs.YtjeonneegmhcdaaW.PrintWords Go.Proofs.YtjeonneegmhcdaaW.PrintLast Go.Proofs.YtjeonneegmhcdaaW.PrintMore
attribute [local go_sem] max2_int min2_int max_two min_two max_three min_three max_four min_four   -- for this text's walks alone
set_option linter.unusedVariables false
set_option linter.unusedSimpArgs false

/-! ### spec_CostsOk: function 89 -/
mutual
def spec_CostsOk.l0 : Nat → List (List Int) → Int → Option (Bool)
  | 0, _, _ => none
  | k + 1, x0, x3 => if x3 < (x0.length : Int) then (if 0 ≤ x3 then (if ((rd_L1 x0 x3).length : Int) > 10 then (spec_CostsOk.j1 k x0 x3 true) else (if 0 < (x0.length : Int) then (if ((rd_L1 x0 x3).length : Int) = ((rd_L1 x0 0).length : Int) then (spec_CostsOk.j1 k x0 x3 (decide (((rd_L1 x0 x3).length : Int) < (x0.length : Int)))) else (spec_CostsOk.j1 k x0 x3 true)) else (none))) else (none)) else (some true)
def spec_CostsOk.j1 : Nat → List (List Int) → Int → Bool → Option (Bool)
  | 0, _, _, _ => none
  | k + 1, x0, x3, x41 => if x41 = true then (some false) else (spec_CostsOk.l1 k x0 x3 0)
def spec_CostsOk.l1 : Nat → List (List Int) → Int → Int → Option (Bool)
  | 0, _, _, _ => none
  | k + 1, x0, x3, x4 => if 0 ≤ x3 then (if x3 < (x0.length : Int) then (if x4 < ((rd_L1 x0 x3).length : Int) then (if 0 ≤ x4 then ((spec_l1In.f (rd (rd_L1 x0 x3) x4) 0 100000).bind fun t128 => (if t128 = true then (spec_CostsOk.l1 k x0 x3 (wrap64 (x4 + 1))) else (some false))) else (none)) else (spec_CostsOk.l0 k x0 (wrap64 (x3 + 1)))) else (none)) else (none)
end
def spec_CostsOk.f (k : Nat) (l0 : List (List Int)) : Option (Bool) := if (l0.length : Int) > 10 then (some false) else (spec_CostsOk.l0 k l0 0)
theorem spec_CostsOk.mono_l : ∀ k, (∀ y0 y1, LeO (spec_CostsOk.l0 k y0 y1) (spec_CostsOk.l0 (k + 1) y0 y1)) ∧ (∀ y0 y1 y2, LeO (spec_CostsOk.j1 k y0 y1 y2) (spec_CostsOk.j1 (k + 1) y0 y1 y2)) ∧ (∀ y0 y1 y2, LeO (spec_CostsOk.l1 k y0 y1 y2) (spec_CostsOk.l1 (k + 1) y0 y1 y2))
  | 0 => ⟨fun _ _ r h => by simp [spec_CostsOk.l0] at h, fun _ _ _ r h => by simp [spec_CostsOk.j1] at h, fun _ _ _ r h => by simp [spec_CostsOk.l1] at h⟩
  | k + 1 => by
    obtain ⟨ih0, ih1, ih2⟩ := spec_CostsOk.mono_l k
    refine ⟨?_, ?_, ?_⟩
    {
    intro y0 y1
    unfold spec_CostsOk.l0
    repeat' first
    | (with_reducible exact ih0 _ _)
    | (with_reducible exact ih1 _ _ _)
    | (with_reducible exact ih2 _ _ _)
    | (with_reducible exact LeO.refl _)
    | (with_reducible exact LeO.none _)
    | (with_reducible refine LeO.ite ?_ ?_)
    | (with_reducible refine LeO.bind ?_ (fun _ => ?_))
    | exact ih0 _ _
    | exact ih1 _ _ _
    | exact ih2 _ _ _
    | exact LeO.none _
    | refine LeO.ite ?_ ?_
    | refine LeO.bind ?_ (fun _ => ?_)
    }
    {
    intro y0 y1 y2
    unfold spec_CostsOk.j1
    repeat' first
    | (with_reducible exact ih0 _ _)
    | (with_reducible exact ih1 _ _ _)
    | (with_reducible exact ih2 _ _ _)
    | (with_reducible exact LeO.refl _)
    | (with_reducible exact LeO.none _)
    | (with_reducible refine LeO.ite ?_ ?_)
    | (with_reducible refine LeO.bind ?_ (fun _ => ?_))
    | exact ih0 _ _
    | exact ih1 _ _ _
    | exact ih2 _ _ _
    | exact LeO.none _
    | refine LeO.ite ?_ ?_
    | refine LeO.bind ?_ (fun _ => ?_)
    }
    {
    intro y0 y1 y2
    unfold spec_CostsOk.l1
    repeat' first
    | (with_reducible exact ih0 _ _)
    | (with_reducible exact ih1 _ _ _)
    | (with_reducible exact ih2 _ _ _)
    | (with_reducible exact LeO.refl _)
    | (with_reducible exact LeO.none _)
    | (with_reducible refine LeO.ite ?_ ?_)
    | (with_reducible refine LeO.bind ?_ (fun _ => ?_))
    | exact ih0 _ _
    | exact ih1 _ _ _
    | exact ih2 _ _ _
    | exact LeO.none _
    | refine LeO.ite ?_ ?_
    | refine LeO.bind ?_ (fun _ => ?_)
    }
theorem spec_CostsOk.mono : ∀ a0 k, LeO (spec_CostsOk.f k a0) (spec_CostsOk.f (k + 1) a0) := by
  intro a0 k
  obtain ⟨ih0, ih1, ih2⟩ := spec_CostsOk.mono_l k
  unfold spec_CostsOk.f
  repeat' first
      | (with_reducible exact ih0 _ _)
      | (with_reducible exact ih1 _ _ _)
      | (with_reducible exact ih2 _ _ _)
      | (with_reducible exact LeO.refl _)
      | (with_reducible exact LeO.none _)
      | (with_reducible refine LeO.ite ?_ ?_)
      | (with_reducible refine LeO.bind ?_ (fun _ => ?_))
      | exact ih0 _ _
      | exact ih1 _ _ _
      | exact ih2 _ _ _
      | exact LeO.none _
      | refine LeO.ite ?_ ?_
      | refine LeO.bind ?_ (fun _ => ?_)
set_option maxHeartbeats 8000000 in
set_option maxRecDepth 100000 in
theorem spec_CostsOk.calls (k : Nat) (A0 : Option Addr) (c0 : Nat) (l0 : List (List Int)) (r : Bool) (w : World) (hr0 : Kd.C (Kd.slice 3 (Kd.int .i64)) w A0 l0.length l0) (hc0 : l0.length ≤ c0) (h : spec_CostsOk.f k l0 = some r) :
    Calls Try.prog 89 #[.slice A0 l0.length c0] w fun e w' => e = .returned (.bool r) ∧ Drawn0 w w' := by
  have HR0 := Aside0.mk hr0
  have HC0 := Aside0.mk hc0
  clear hr0 hc0
  have H : (if (l0.length : Int) > 10 then (some false) else (spec_CostsOk.l0 k l0 0)) = some r := h
  clear h
  by_cases c2 : (l0.length : Int) > 10
  {
  rw [if_pos c2] at H
  have c2b0 : decide (10 < (l0.length : Int)) = true := decide_eq_true c2
  have c2b1 : decide (10 < l0.length) = true := decide_eq_true (by omega)
  clear c2
  obtain rfl := Option.some.inj H
  simp only [Option.some.injEq, Prod.mk.injEq] at H
  obtain ⟨rfl⟩ := H
  go_enter Try.func89, Try.ntmps89
  go_wp2
  repeat (go_quiet (fail); try go_wp2)
  go_ret
  exact ⟨by first | rfl | (simp; done) | (simp [*]; done), by repeat (first | exact Drawn0.refl _ | apply Drawn0.step)⟩
  }
  {
  rw [if_neg c2] at H
  have c2b0 : decide (10 < (l0.length : Int)) = false := decide_eq_false c2
  have c2b1 : decide (10 < l0.length) = false := decide_eq_false (by omega)
  clear c2
  have H' := Aside0.mk H
  clear H
  go_enter Try.func89, Try.ntmps89
  go_wp2
  repeat (go_quiet (fail); try go_wp2)
  go_loopg [3] k (fun kq v3 w' => ∃ (x3_1 : Int), v3 = .int .i64 x3_1 ∧ Aside0 (spec_CostsOk.l0 kq l0 x3_1 = some r) ∧ Aside0 (kq ≤ k) ∧ Drawn0 w w')
  case atStart => exact ⟨(0), qz4, H', ⟨Nat.le_refl _⟩, by repeat (first | exact Drawn0.refl _ | apply Drawn0.step)⟩
  case round =>
    clear H'
    try clear c2
    try clear c2b0
    try clear c2b1
    try clear p2
    obtain ⟨x3_1, rfl, HA, HK1, ⟨m1, rfl⟩⟩ := hrel
    cases gk with
    | zero => exact absurd HA.out (by simp [spec_CostsOk.l0])
    | succ k1 =>
      have H := HA.out
      clear HA
      simp only [spec_CostsOk.l0] at H
      by_cases c3 : x3_1 < (l0.length : Int)
      {
      rw [if_pos c3] at H
      have c3b0 : decide (x3_1 < (l0.length : Int)) = true := decide_eq_true c3
      clear c3
      have HC4 := Aside0.mk H
      clear H
      go_upto_region 6 with (fail)
      repeat (go_quiet (fail); go_upto_region 6 with (fail))
      go_cut [41] (fun v41 wc => ∃ (kq : Nat) (x41_3 : Bool), v41 = .bool x41_3 ∧ Aside0 (spec_CostsOk.j1 kq l0 x3_1 x41_3 = some r) ∧ Aside0 (kq ≤ k1) ∧ Drawn0 w wc)
      case first =>
        have H := HC4.out
        clear HC4
        by_cases c5 : 0 ≤ x3_1
        {
        rw [if_pos c5] at H
        have c5b0 : decide (0 ≤ x3_1) = true := decide_eq_true c5
        clear c5
        (first | rw [c5b0] | (simp only [i64_w, i32_w]; rw [c5b0]) | rw [@decide_eq_true _ _ (of_decide_eq_true c5b0)] | rw [@decide_eq_true _ _ (of_decide_eq_true c5b1)] | skip)
        by_cases c6 : ((rd_L1 l0 x3_1).length : Int) > 10
        {
        rw [if_pos c6] at H
        have c6b0 : decide (10 < ((rd_L1 l0 x3_1).length : Int)) = true := decide_eq_true c6
        have c6b1 : decide (10 < (rd_L1 l0 x3_1).length) = true := decide_eq_true (by omega)
        clear c6
        have H' := Aside0.mk H
        clear H
        have p121 : 0 ≤ (x3_1 : Int) := of_decide_eq_true qz1
        have q121 : x3_1 < (l0.length : Int) := of_decide_eq_true qz1
        obtain ⟨ad121, A121_0, c121_0, e121, hx121_0, hl121_0, hi121_0⟩ := at_L1 HR0.out x3_1 p121 q121
        cases e121
        have HR121_0 := Aside0.mk hi121_0
        have HC121_0 := Aside0.mk hl121_0
        clear hi121_0 hl121_0
        replace p121 := eq_true p121
        replace q121 := eq_true q121
        go_wp2
        repeat (go_quiet (fail); try go_wp2)
        go_meet
        case rel => exact ⟨_, (true), qz4, H', ⟨by have := HK1.out; first | omega | exact Nat.le_refl _⟩, by repeat (first | exact Drawn0.refl _ | apply Drawn0.step)⟩
        }
        {
        rw [if_neg c6] at H
        have c6b0 : decide (10 < ((rd_L1 l0 x3_1).length : Int)) = false := decide_eq_false c6
        have c6b1 : decide (10 < (rd_L1 l0 x3_1).length) = false := decide_eq_false (by omega)
        clear c6
        by_cases c7 : 0 < (l0.length : Int)
        {
        rw [if_pos c7] at H
        have c7b0 : decide (0 < (l0.length : Int)) = true := decide_eq_true c7
        have c7b1 : decide (0 < l0.length) = true := decide_eq_true (by omega)
        clear c7
        by_cases c8 : ((rd_L1 l0 x3_1).length : Int) = ((rd_L1 l0 0).length : Int)
        {
        rw [if_pos c8] at H
        have c8b0 : (((rd_L1 l0 x3_1).length : Int) == ((rd_L1 l0 0).length : Int)) = true := beq_iff_eq.mpr c8
        have c8b1 : (((rd_L1 l0 x3_1).length : Int) != ((rd_L1 l0 0).length : Int)) = false := bne_eq_false_iff_eq.mpr c8
        have c8b2 : ((rd_L1 l0 x3_1).length == (rd_L1 l0 0).length) = true := by first | simpa using c8 | (simp at c8 ⊢; omega)
        clear c8
        have H' := Aside0.mk H
        clear H
        have p121 : 0 ≤ (x3_1 : Int) := of_decide_eq_true qz1
        have q121 : x3_1 < (l0.length : Int) := of_decide_eq_true qz1
        obtain ⟨ad121, A121_0, c121_0, e121, hx121_0, hl121_0, hi121_0⟩ := at_L1 HR0.out x3_1 p121 q121
        cases e121
        have HR121_0 := Aside0.mk hi121_0
        have HC121_0 := Aside0.mk hl121_0
        clear hi121_0 hl121_0
        replace p121 := eq_true p121
        replace q121 := eq_true q121
        have p122 : 0 ≤ (x3_1 : Int) := of_decide_eq_true qz1
        have q122 : x3_1 < (l0.length : Int) := of_decide_eq_true qz1
        obtain ⟨ad122, A122_0, c122_0, e122, hx122_0, hl122_0, hi122_0⟩ := at_L1 HR0.out x3_1 p122 q122
        obtain rfl : ad121 = ad122 := (by injection e122)
        have HR122_0 := Aside0.mk hi122_0
        have HC122_0 := Aside0.mk hl122_0
        clear hi122_0 hl122_0
        replace p122 := eq_true p122
        replace q122 := eq_true q122
        have ea_ := Option.some.inj (hx121_0.symm.trans hx122_0)
        injection ea_ with ea_ en_ ec_
        subst ea_
        subst ec_
        clear en_
        have p123 : 0 ≤ (0 : Int) := (by omega)
        have q123 : 0 < (l0.length : Int) := of_decide_eq_true qz1
        obtain ⟨ad123, A123_0, c123_0, e123, hx123_0, hl123_0, hi123_0⟩ := at_L1 HR0.out 0 p123 q123
        obtain rfl : ad121 = ad123 := (by injection e123)
        have qi123 : (0 < l0.length) = True := eq_true (by omega)
        (try rw [show ((0 : Int)).toNat = 0 from rfl] at hx123_0)
        (try rw [Addr.add_zero'] at hx123_0)
        have HR123_0 := Aside0.mk hi123_0
        have HC123_0 := Aside0.mk hl123_0
        clear hi123_0 hl123_0
        replace p123 := eq_true p123
        replace q123 := eq_true q123
        have p124 : 0 ≤ (x3_1 : Int) := of_decide_eq_true qz1
        have q124 : x3_1 < (l0.length : Int) := of_decide_eq_true qz1
        obtain ⟨ad124, A124_0, c124_0, e124, hx124_0, hl124_0, hi124_0⟩ := at_L1 HR0.out x3_1 p124 q124
        obtain rfl : ad121 = ad124 := (by injection e124)
        have HR124_0 := Aside0.mk hi124_0
        have HC124_0 := Aside0.mk hl124_0
        clear hi124_0 hl124_0
        replace p124 := eq_true p124
        replace q124 := eq_true q124
        have ea_ := Option.some.inj (hx121_0.symm.trans hx124_0)
        injection ea_ with ea_ en_ ec_
        subst ea_
        subst ec_
        clear en_
        go_wp2
        repeat (go_quiet (fail); try go_wp2)
        go_meet
        case rel => exact ⟨_, (decide (((rd_L1 l0 x3_1).length : Int) < (l0.length : Int))), qz4, H', ⟨by have := HK1.out; first | omega | exact Nat.le_refl _⟩, by repeat (first | exact Drawn0.refl _ | apply Drawn0.step)⟩
        }
        {
        rw [if_neg c8] at H
        have c8b0 : (((rd_L1 l0 x3_1).length : Int) == ((rd_L1 l0 0).length : Int)) = false := beq_eq_false_iff_ne.mpr c8
        have c8b1 : (((rd_L1 l0 x3_1).length : Int) != ((rd_L1 l0 0).length : Int)) = true := bne_iff_ne.mpr c8
        have c8b2 : ((rd_L1 l0 x3_1).length == (rd_L1 l0 0).length) = false := by first | simpa using c8 | (simp at c8 ⊢; omega)
        have H' := Aside0.mk H
        clear H
        have p121 : 0 ≤ (x3_1 : Int) := of_decide_eq_true qz1
        have q121 : x3_1 < (l0.length : Int) := of_decide_eq_true qz1
        obtain ⟨ad121, A121_0, c121_0, e121, hx121_0, hl121_0, hi121_0⟩ := at_L1 HR0.out x3_1 p121 q121
        cases e121
        have HR121_0 := Aside0.mk hi121_0
        have HC121_0 := Aside0.mk hl121_0
        clear hi121_0 hl121_0
        replace p121 := eq_true p121
        replace q121 := eq_true q121
        have p122 : 0 ≤ (x3_1 : Int) := of_decide_eq_true qz1
        have q122 : x3_1 < (l0.length : Int) := of_decide_eq_true qz1
        obtain ⟨ad122, A122_0, c122_0, e122, hx122_0, hl122_0, hi122_0⟩ := at_L1 HR0.out x3_1 p122 q122
        obtain rfl : ad121 = ad122 := (by injection e122)
        have HR122_0 := Aside0.mk hi122_0
        have HC122_0 := Aside0.mk hl122_0
        clear hi122_0 hl122_0
        replace p122 := eq_true p122
        replace q122 := eq_true q122
        have ea_ := Option.some.inj (hx121_0.symm.trans hx122_0)
        injection ea_ with ea_ en_ ec_
        subst ea_
        subst ec_
        clear en_
        have p123 : 0 ≤ (0 : Int) := (by omega)
        have q123 : 0 < (l0.length : Int) := of_decide_eq_true qz1
        obtain ⟨ad123, A123_0, c123_0, e123, hx123_0, hl123_0, hi123_0⟩ := at_L1 HR0.out 0 p123 q123
        obtain rfl : ad121 = ad123 := (by injection e123)
        have qi123 : (0 < l0.length) = True := eq_true (by omega)
        (try rw [show ((0 : Int)).toNat = 0 from rfl] at hx123_0)
        (try rw [Addr.add_zero'] at hx123_0)
        have HR123_0 := Aside0.mk hi123_0
        have HC123_0 := Aside0.mk hl123_0
        clear hi123_0 hl123_0
        replace p123 := eq_true p123
        replace q123 := eq_true q123
        go_wp2
        repeat (go_quiet (fail); try go_wp2)
        go_meet
        case rel => exact ⟨_, (true), qz4, H', ⟨by have := HK1.out; first | omega | exact Nat.le_refl _⟩, by repeat (first | exact Drawn0.refl _ | apply Drawn0.step)⟩
        }
        }
        {
        rw [if_neg c7] at H
        exact absurd H (by simp)
        }
        }
        }
        {
        rw [if_neg c5] at H
        exact absurd H (by simp)
        }
      case rest =>
        clear HC4
        try clear c1
        try clear p1
        try clear q1
        try clear hx1
        try clear qi1
        try clear c2
        try clear c2b0
        try clear c2b1
        try clear p2
        try clear c3
        try clear c3b0
        try clear c5
        try clear c5b0
        try clear c5b1
        try clear c6
        try clear c6b0
        try clear c6b1
        try clear c7
        try clear c7b0
        try clear c7b1
        try clear c8
        try clear c8b0
        try clear c8b1
        try clear c8b2
        try clear hx121_0
        try clear hx122_0
        try clear hx123_0
        try clear hx124_0
        try clear p121
        try clear p122
        try clear p123
        try clear p124
        try clear p2
        try clear q121
        try clear q122
        try clear q123
        try clear q124
        obtain ⟨kq, x41_3, rfl, HA, HJ3, ⟨mc3, rfl⟩⟩ := hcut
        cases kq with
        | zero => exact absurd HA.out (by simp [spec_CostsOk.j1])
        | succ kj3 =>
          have H := HA.out
          clear HA
          simp only [spec_CostsOk.j1] at H
          by_cases c9 : x41_3 = true
          {
          subst c9
          have H1 : (some false) = some r := by rw [if_pos rfl] at H; exact H
          clear H
          have H := H1
          clear H1
          obtain rfl := Option.some.inj H
          simp only [Option.some.injEq, Prod.mk.injEq] at H
          obtain ⟨rfl⟩ := H
          go_wp2
          repeat (go_quiet (fail); try go_wp2)
          go_ret
          exact ⟨by first | rfl | (simp; done) | (simp [*]; done), by repeat (first | exact Drawn0.refl _ | apply Drawn0.step)⟩
          }
          {
          replace c9 := Bool.eq_false_iff.mpr c9
          subst c9
          have H1 : (spec_CostsOk.l1 kj3 l0 x3_1 0) = some r := by rw [if_neg (show ¬ (false = true) by decide)] at H; exact H
          clear H
          have H := H1
          clear H1
          have H' := Aside0.mk H
          clear H
          go_wp2
          repeat (go_quiet (fail); try go_wp2)
          go_loopg [4] kj3 (fun kq v4 w' => ∃ (x4_3 : Int), v4 = .int .i64 x4_3 ∧ Aside0 (spec_CostsOk.l1 kq l0 x3_1 x4_3 = some r) ∧ Aside0 (kq ≤ kj3) ∧ Drawn0 w w')
          case atStart => exact ⟨(0), qz4, H', ⟨Nat.le_refl _⟩, by repeat (first | exact Drawn0.refl _ | apply Drawn0.step)⟩
          case round =>
            clear H'
            try clear c1
            try clear p1
            try clear q1
            try clear hx1
            try clear qi1
            try clear c2
            try clear c2b0
            try clear c2b1
            try clear p2
            try clear c3
            try clear c3b0
            try clear c5
            try clear c5b0
            try clear c5b1
            try clear c6
            try clear c6b0
            try clear c6b1
            try clear c7
            try clear c7b0
            try clear c7b1
            try clear c8
            try clear c8b0
            try clear c8b1
            try clear c8b2
            try clear c9
            try clear hx121_0
            try clear hx122_0
            try clear hx123_0
            try clear hx124_0
            try clear p1
            try clear p121
            try clear p122
            try clear p123
            try clear p124
            try clear p2
            try clear q1
            try clear q121
            try clear q122
            try clear q123
            try clear q124
            obtain ⟨x4_3, rfl, HA, HK3, ⟨m3, rfl⟩⟩ := hrel
            cases gk with
            | zero => exact absurd HA.out (by simp [spec_CostsOk.l1])
            | succ k3 =>
              have H := HA.out
              clear HA
              simp only [spec_CostsOk.l1] at H
              by_cases c10 : 0 ≤ x3_1
              {
              rw [if_pos c10] at H
              have c10b0 : decide (0 ≤ x3_1) = true := decide_eq_true c10
              clear c10
              by_cases c11 : x3_1 < (l0.length : Int)
              {
              rw [if_pos c11] at H
              have c11b0 : decide (x3_1 < (l0.length : Int)) = true := decide_eq_true c11
              clear c11
              by_cases c12 : x4_3 < ((rd_L1 l0 x3_1).length : Int)
              {
              rw [if_pos c12] at H
              have c12b0 : decide (x4_3 < ((rd_L1 l0 x3_1).length : Int)) = true := decide_eq_true c12
              clear c12
              by_cases c13 : 0 ≤ x4_3
              {
              rw [if_pos c13] at H
              have c13b0 : decide (0 ≤ x4_3) = true := decide_eq_true c13
              clear c13
              replace H := Option.bind_eq_some_iff.mp H
              obtain ⟨t128, A140, H⟩ := H
              replace H : (if t128 = true then (spec_CostsOk.l1 k3 l0 x3_1 (wrap64 (x4_3 + 1))) else (some false)) = some r := H
              have A14 := Aside0.mk A140
              clear A140
              by_cases c15 : t128 = true
              {
              subst c15
              have H1 : (spec_CostsOk.l1 k3 l0 x3_1 (wrap64 (x4_3 + 1))) = some r := by rw [if_pos rfl] at H; exact H
              clear H
              have H := H1
              clear H1
              have H' := Aside0.mk H
              clear H
              have p125 : 0 ≤ (x3_1 : Int) := of_decide_eq_true qz1
              have q125 : x3_1 < (l0.length : Int) := of_decide_eq_true qz1
              obtain ⟨ad125, A125_0, c125_0, e125, hx125_0, hl125_0, hi125_0⟩ := at_L1 HR0.out x3_1 p125 q125
              cases e125
              have HR125_0 := Aside0.mk hi125_0
              have HC125_0 := Aside0.mk hl125_0
              clear hi125_0 hl125_0
              replace p125 := eq_true p125
              replace q125 := eq_true q125
              have p126 : 0 ≤ (x3_1 : Int) := of_decide_eq_true qz1
              have q126 : x3_1 < (l0.length : Int) := of_decide_eq_true qz1
              obtain ⟨ad126, A126_0, c126_0, e126, hx126_0, hl126_0, hi126_0⟩ := at_L1 HR0.out x3_1 p126 q126
              obtain rfl : ad125 = ad126 := (by injection e126)
              have HR126_0 := Aside0.mk hi126_0
              have HC126_0 := Aside0.mk hl126_0
              clear hi126_0 hl126_0
              replace p126 := eq_true p126
              replace q126 := eq_true q126
              have ea_ := Option.some.inj (hx125_0.symm.trans hx126_0)
              injection ea_ with ea_ en_ ec_
              subst ea_
              subst ec_
              clear en_
              have p127 : 0 ≤ (x4_3 : Int) := of_decide_eq_true qz1
              have q127 : x4_3 < ((rd_L1 l0 x3_1).length : Int) := of_decide_eq_true qz1
              obtain ⟨ad127, e127, hx127_0⟩ := Kd.at_int HR126_0.out x4_3 p127 q127
              cases e127
              replace p127 := eq_true p127
              replace q127 := eq_true q127
              go_wp2_with (first | (go_at_call 90; (with_reducible refine (spec_l1In.calls (rd (rd_L1 l0 x3_1) x4_3) 0 100000 true _ A14.out).mono ?_); rintro e w' ⟨rfl, ⟨nd, rfl⟩⟩; (try first | exact ⟨rfl, _, World.drewN_drewN _ _ _⟩ | exact ⟨rfl, _, Eq.trans (World.drewN_drewN _ _ _) (congrArg (World.drewN _) (Nat.add_assoc _ _ _))⟩)))
              repeat (go_quiet (first | (go_at_call 90; (with_reducible refine (spec_l1In.calls (rd (rd_L1 l0 x3_1) x4_3) 0 100000 true _ A14.out).mono ?_); rintro e w' ⟨rfl, ⟨nd, rfl⟩⟩; (try first | exact ⟨rfl, _, World.drewN_drewN _ _ _⟩ | exact ⟨rfl, _, Eq.trans (World.drewN_drewN _ _ _) (congrArg (World.drewN _) (Nat.add_assoc _ _ _))⟩))); try go_wp2_with (first | (go_at_call 90; (with_reducible refine (spec_l1In.calls (rd (rd_L1 l0 x3_1) x4_3) 0 100000 true _ A14.out).mono ?_); rintro e w' ⟨rfl, ⟨nd, rfl⟩⟩; (try first | exact ⟨rfl, _, World.drewN_drewN _ _ _⟩ | exact ⟨rfl, _, Eq.trans (World.drewN_drewN _ _ _) (congrArg (World.drewN _) (Nat.add_assoc _ _ _))⟩))))
              go_roundg k3
              case measure => have := HK1.out; have := HJ3.out; have := HK3.out; omega
              case rel => exact ⟨(wrap64 (x4_3 + 1)), qz4, H', ⟨by have := HK1.out; have := HJ3.out; have := HK3.out; omega⟩, by repeat (first | exact Drawn0.refl _ | apply Drawn0.step)⟩
              }
              {
              replace c15 := Bool.eq_false_iff.mpr c15
              subst c15
              have H1 : (some false) = some r := by rw [if_neg (show ¬ (false = true) by decide)] at H; exact H
              clear H
              have H := H1
              clear H1
              obtain rfl := Option.some.inj H
              simp only [Option.some.injEq, Prod.mk.injEq] at H
              obtain ⟨rfl⟩ := H
              have p125 : 0 ≤ (x3_1 : Int) := of_decide_eq_true qz1
              have q125 : x3_1 < (l0.length : Int) := of_decide_eq_true qz1
              obtain ⟨ad125, A125_0, c125_0, e125, hx125_0, hl125_0, hi125_0⟩ := at_L1 HR0.out x3_1 p125 q125
              cases e125
              have HR125_0 := Aside0.mk hi125_0
              have HC125_0 := Aside0.mk hl125_0
              clear hi125_0 hl125_0
              replace p125 := eq_true p125
              replace q125 := eq_true q125
              have p126 : 0 ≤ (x3_1 : Int) := of_decide_eq_true qz1
              have q126 : x3_1 < (l0.length : Int) := of_decide_eq_true qz1
              obtain ⟨ad126, A126_0, c126_0, e126, hx126_0, hl126_0, hi126_0⟩ := at_L1 HR0.out x3_1 p126 q126
              obtain rfl : ad125 = ad126 := (by injection e126)
              have HR126_0 := Aside0.mk hi126_0
              have HC126_0 := Aside0.mk hl126_0
              clear hi126_0 hl126_0
              replace p126 := eq_true p126
              replace q126 := eq_true q126
              have ea_ := Option.some.inj (hx125_0.symm.trans hx126_0)
              injection ea_ with ea_ en_ ec_
              subst ea_
              subst ec_
              clear en_
              have p127 : 0 ≤ (x4_3 : Int) := of_decide_eq_true qz1
              have q127 : x4_3 < ((rd_L1 l0 x3_1).length : Int) := of_decide_eq_true qz1
              obtain ⟨ad127, e127, hx127_0⟩ := Kd.at_int HR126_0.out x4_3 p127 q127
              cases e127
              replace p127 := eq_true p127
              replace q127 := eq_true q127
              go_wp2_with (first | (go_at_call 90; (with_reducible refine (spec_l1In.calls (rd (rd_L1 l0 x3_1) x4_3) 0 100000 false _ A14.out).mono ?_); rintro e w' ⟨rfl, ⟨nd, rfl⟩⟩; (try first | exact ⟨rfl, _, World.drewN_drewN _ _ _⟩ | exact ⟨rfl, _, Eq.trans (World.drewN_drewN _ _ _) (congrArg (World.drewN _) (Nat.add_assoc _ _ _))⟩)))
              repeat (go_quiet (first | (go_at_call 90; (with_reducible refine (spec_l1In.calls (rd (rd_L1 l0 x3_1) x4_3) 0 100000 false _ A14.out).mono ?_); rintro e w' ⟨rfl, ⟨nd, rfl⟩⟩; (try first | exact ⟨rfl, _, World.drewN_drewN _ _ _⟩ | exact ⟨rfl, _, Eq.trans (World.drewN_drewN _ _ _) (congrArg (World.drewN _) (Nat.add_assoc _ _ _))⟩))); try go_wp2_with (first | (go_at_call 90; (with_reducible refine (spec_l1In.calls (rd (rd_L1 l0 x3_1) x4_3) 0 100000 false _ A14.out).mono ?_); rintro e w' ⟨rfl, ⟨nd, rfl⟩⟩; (try first | exact ⟨rfl, _, World.drewN_drewN _ _ _⟩ | exact ⟨rfl, _, Eq.trans (World.drewN_drewN _ _ _) (congrArg (World.drewN _) (Nat.add_assoc _ _ _))⟩))))
              go_ret
              exact ⟨by first | rfl | (simp; done) | (simp [*]; done), by repeat (first | exact Drawn0.refl _ | apply Drawn0.step)⟩
              }
              }
              {
              rw [if_neg c13] at H
              exact absurd H (by simp)
              }
              }
              {
              rw [if_neg c12] at H
              have c12b0 : decide (x4_3 < ((rd_L1 l0 x3_1).length : Int)) = false := decide_eq_false c12
              clear c12
              have H' := Aside0.mk H
              clear H
              have p125 : 0 ≤ (x3_1 : Int) := of_decide_eq_true qz1
              have q125 : x3_1 < (l0.length : Int) := of_decide_eq_true qz1
              obtain ⟨ad125, A125_0, c125_0, e125, hx125_0, hl125_0, hi125_0⟩ := at_L1 HR0.out x3_1 p125 q125
              cases e125
              have HR125_0 := Aside0.mk hi125_0
              have HC125_0 := Aside0.mk hl125_0
              clear hi125_0 hl125_0
              replace p125 := eq_true p125
              replace q125 := eq_true q125
              go_wp2
              repeat (go_quiet (fail); try go_wp2)
              go_roundg k3
              case measure => have := HK1.out; have := HJ3.out; have := HK3.out; omega
              case rel => exact ⟨(wrap64 (x3_1 + 1)), qz4, H', ⟨by have := HK1.out; have := HJ3.out; have := HK3.out; omega⟩, by repeat (first | exact Drawn0.refl _ | apply Drawn0.step)⟩
              }
              }
              {
              rw [if_neg c11] at H
              exact absurd H (by simp)
              }
              }
              {
              rw [if_neg c10] at H
              exact absurd H (by simp)
              }
          }
      }
      {
      rw [if_neg c3] at H
      have c3b0 : decide (x3_1 < (l0.length : Int)) = false := decide_eq_false c3
      clear c3
      obtain rfl := Option.some.inj H
      simp only [Option.some.injEq, Prod.mk.injEq] at H
      obtain ⟨rfl⟩ := H
      go_wp2
      repeat (go_quiet (fail); try go_wp2)
      go_ret
      exact ⟨by first | rfl | (simp; done) | (simp [*]; done), by repeat (first | exact Drawn0.refl _ | apply Drawn0.step)⟩

      }
  }
end Go.Proofs.Ytjeonneegmhcdaa.PFnExactProves
