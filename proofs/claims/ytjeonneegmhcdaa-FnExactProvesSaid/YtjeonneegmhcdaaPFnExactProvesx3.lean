-- Made by a program of this session out of the translation. Lean checks it.
import Derived.Test.YtjeonneegmhcdaaPFnExactProvesx0
import Derived.Test.YtjeonneegmhcdaaPFnExactProvesx1
import Derived.Test.YtjeonneegmhcdaaPFnExactProvesx2
namespace Go.Proofs.Ytjeonneegmhcdaa.PFnExactProves
open Go.RowKit Go.Proofs.YtjeonneegmhcdaaW.PrintWords Go.Proofs.YtjeonneegmhcdaaW.PrintLast Go.Proofs.YtjeonneegmhcdaaW.PrintMore
attribute [local go_sem] max2_int min2_int max_two min_two max_three min_three max_four min_four   -- for this text's walks alone
set_option linter.unusedVariables false
set_option linter.unusedSimpArgs false

/-! ### spec_SumOf: function 38 -/
mutual
def spec_SumOf.j0 : Nat → List (List Int) → List Int → Bool → Option (Int)
  | 0, _, _, _ => none
  | k + 1, x0, x1, x17 => if x17 = true then (some (-1)) else (spec_SumOf.l0 k x0 x1 0 0)
def spec_SumOf.l0 : Nat → List (List Int) → List Int → Int → Int → Option (Int)
  | 0, _, _, _, _ => none
  | k + 1, x0, x1, x5, x6 => if x6 < (x1.length : Int) then (if 0 ≤ x6 then (if x6 < (x0.length : Int) then ((spec_l1In.f (rd x1 x6) 0 (wrap64 (((rd_L1 x0 x6).length : Int) - 1))).bind fun t132 => (if t132 = true then (spec_SumOf.l1 k x0 x1 x5 x6 0) else (some (-1)))) else (none)) else (none)) else (some x5)
def spec_SumOf.l1 : Nat → List (List Int) → List Int → Int → Int → Int → Option (Int)
  | 0, _, _, _, _, _ => none
  | k + 1, x0, x1, x5, x6, x7 => if x7 < x6 then (if 0 ≤ x7 then (if x7 < (x1.length : Int) then (if 0 ≤ x6 then (if x6 < (x1.length : Int) then (if (rd x1 x7) = (rd x1 x6) then (some (-1)) else (spec_SumOf.l1 k x0 x1 x5 x6 (wrap64 (x7 + 1)))) else (none)) else (none)) else (none)) else (none)) else (if 0 ≤ x6 then (if x6 < (x0.length : Int) then (if x6 < (x1.length : Int) then (if 0 ≤ (rd x1 x6) then (if (rd x1 x6) < ((rd_L1 x0 x6).length : Int) then (spec_SumOf.l0 k x0 x1 (wrap64 (x5 + (rd (rd_L1 x0 x6) (rd x1 x6)))) (wrap64 (x6 + 1))) else (none)) else (none)) else (none)) else (none)) else (none))
end
def spec_SumOf.f (k : Nat) (l0 : List (List Int)) (l1 : List Int) : Option (Int) := (spec_CostsOk.f k l0).bind fun t129 => (if t129 = true then (spec_SumOf.j0 k l0 l1 ((l1.length : Int) != (l0.length : Int))) else (spec_SumOf.j0 k l0 l1 true))
theorem spec_SumOf.mono_l : ∀ k, (∀ y0 y1 y2, LeO (spec_SumOf.j0 k y0 y1 y2) (spec_SumOf.j0 (k + 1) y0 y1 y2)) ∧ (∀ y0 y1 y2 y3, LeO (spec_SumOf.l0 k y0 y1 y2 y3) (spec_SumOf.l0 (k + 1) y0 y1 y2 y3)) ∧ (∀ y0 y1 y2 y3 y4, LeO (spec_SumOf.l1 k y0 y1 y2 y3 y4) (spec_SumOf.l1 (k + 1) y0 y1 y2 y3 y4))
  | 0 => ⟨fun _ _ _ r h => by simp [spec_SumOf.j0] at h, fun _ _ _ _ r h => by simp [spec_SumOf.l0] at h, fun _ _ _ _ _ r h => by simp [spec_SumOf.l1] at h⟩
  | k + 1 => by
    obtain ⟨ih0, ih1, ih2⟩ := spec_SumOf.mono_l k
    refine ⟨?_, ?_, ?_⟩
    {
    intro y0 y1 y2
    unfold spec_SumOf.j0
    repeat' first
    | (with_reducible exact ih0 _ _ _)
    | (with_reducible exact ih1 _ _ _ _)
    | (with_reducible exact ih2 _ _ _ _ _)
    | (with_reducible exact spec_CostsOk.mono _ _)
    | (with_reducible exact LeO.refl _)
    | (with_reducible exact LeO.none _)
    | (with_reducible refine LeO.ite ?_ ?_)
    | (with_reducible refine LeO.bind ?_ (fun _ => ?_))
    | exact ih0 _ _ _
    | exact ih1 _ _ _ _
    | exact ih2 _ _ _ _ _
    | exact spec_CostsOk.mono _ _
    | exact LeO.none _
    | refine LeO.ite ?_ ?_
    | refine LeO.bind ?_ (fun _ => ?_)
    }
    {
    intro y0 y1 y2 y3
    unfold spec_SumOf.l0
    repeat' first
    | (with_reducible exact ih0 _ _ _)
    | (with_reducible exact ih1 _ _ _ _)
    | (with_reducible exact ih2 _ _ _ _ _)
    | (with_reducible exact spec_CostsOk.mono _ _)
    | (with_reducible exact LeO.refl _)
    | (with_reducible exact LeO.none _)
    | (with_reducible refine LeO.ite ?_ ?_)
    | (with_reducible refine LeO.bind ?_ (fun _ => ?_))
    | exact ih0 _ _ _
    | exact ih1 _ _ _ _
    | exact ih2 _ _ _ _ _
    | exact spec_CostsOk.mono _ _
    | exact LeO.none _
    | refine LeO.ite ?_ ?_
    | refine LeO.bind ?_ (fun _ => ?_)
    }
    {
    intro y0 y1 y2 y3 y4
    unfold spec_SumOf.l1
    repeat' first
    | (with_reducible exact ih0 _ _ _)
    | (with_reducible exact ih1 _ _ _ _)
    | (with_reducible exact ih2 _ _ _ _ _)
    | (with_reducible exact spec_CostsOk.mono _ _)
    | (with_reducible exact LeO.refl _)
    | (with_reducible exact LeO.none _)
    | (with_reducible refine LeO.ite ?_ ?_)
    | (with_reducible refine LeO.bind ?_ (fun _ => ?_))
    | exact ih0 _ _ _
    | exact ih1 _ _ _ _
    | exact ih2 _ _ _ _ _
    | exact spec_CostsOk.mono _ _
    | exact LeO.none _
    | refine LeO.ite ?_ ?_
    | refine LeO.bind ?_ (fun _ => ?_)
    }
theorem spec_SumOf.mono : ∀ a0 a1 k, LeO (spec_SumOf.f k a0 a1) (spec_SumOf.f (k + 1) a0 a1) := by
  intro a0 a1 k
  obtain ⟨ih0, ih1, ih2⟩ := spec_SumOf.mono_l k
  unfold spec_SumOf.f
  repeat' first
      | (with_reducible exact ih0 _ _ _)
      | (with_reducible exact ih1 _ _ _ _)
      | (with_reducible exact ih2 _ _ _ _ _)
      | (with_reducible exact spec_CostsOk.mono _ _)
      | (with_reducible exact LeO.refl _)
      | (with_reducible exact LeO.none _)
      | (with_reducible refine LeO.ite ?_ ?_)
      | (with_reducible refine LeO.bind ?_ (fun _ => ?_))
      | exact ih0 _ _ _
      | exact ih1 _ _ _ _
      | exact ih2 _ _ _ _ _
      | exact spec_CostsOk.mono _ _
      | exact LeO.none _
      | refine LeO.ite ?_ ?_
      | refine LeO.bind ?_ (fun _ => ?_)
set_option maxHeartbeats 8000000 in
set_option maxRecDepth 100000 in
theorem spec_SumOf.calls (k : Nat) (A0 : Option Addr) (c0 : Nat) (l0 : List (List Int)) (A1 : Option Addr) (c1 : Nat) (l1 : List Int) (r : Int) (w : World) (hr0 : Kd.C (Kd.slice 3 (Kd.int .i64)) w A0 l0.length l0) (hc0 : l0.length ≤ c0) (hr1 : Kd.C (Kd.int .i64) w A1 l1.length l1) (hc1 : l1.length ≤ c1) (h : spec_SumOf.f k l0 l1 = some r) :
    Calls Try.prog 38 #[.slice A0 l0.length c0, .slice A1 l1.length c1] w fun e w' => e = .returned (.int .i64 r) ∧ Drawn0 w w' := by
  have HR0 := Aside0.mk hr0
  have HC0 := Aside0.mk hc0
  clear hr0 hc0
  have HR1 := Aside0.mk hr1
  have HC1 := Aside0.mk hc1
  clear hr1 hc1
  have H : ((spec_CostsOk.f k l0).bind fun t129 => (if t129 = true then (spec_SumOf.j0 k l0 l1 ((l1.length : Int) != (l0.length : Int))) else (spec_SumOf.j0 k l0 l1 true))) = some r := h
  clear h
  have HC3 := Aside0.mk H
  clear H
  go_enter Try.func38, Try.ntmps38
  go_upto_region 1 with (fail)
  repeat (go_quiet (fail); go_upto_region 1 with (fail))
  go_cut [17] (fun v17 wc => ∃ (kq : Nat) (x17_2 : Bool), v17 = .bool x17_2 ∧ Aside0 (spec_SumOf.j0 kq l0 l1 x17_2 = some r) ∧ Aside0 (kq ≤ k) ∧ Drawn0 w wc)
  case first =>
    have H := HC3.out
    clear HC3
    replace H := Option.bind_eq_some_iff.mp H
    obtain ⟨t129, A40, H⟩ := H
    replace H : (if t129 = true then (spec_SumOf.j0 k l0 l1 ((l1.length : Int) != (l0.length : Int))) else (spec_SumOf.j0 k l0 l1 true)) = some r := H
    have A4 := Aside0.mk A40
    clear A40
    by_cases c5 : t129 = true
    {
    subst c5
    have H1 : (spec_SumOf.j0 k l0 l1 ((l1.length : Int) != (l0.length : Int))) = some r := by rw [if_pos rfl] at H; exact H
    clear H
    have H := H1
    clear H1
    have H' := Aside0.mk H
    clear H
    go_wp2_with (first | (go_at_call 89; (with_reducible refine (spec_CostsOk.calls k _ _ l0 true _ ?side1 ?side2 A4.out).mono ?_); (case side1 => repeat (first | exact HR0.out | (with_reducible refine Kd.C_alloc ?_ _) | (with_reducible refine Kd.C_drewN ?_ _) | (with_reducible refine Kd.C_drew ?_))); (case side2 => exact HC0.out); rintro e w' ⟨rfl, ⟨nd, rfl⟩⟩; (try first | exact ⟨rfl, _, World.drewN_drewN _ _ _⟩ | exact ⟨rfl, _, Eq.trans (World.drewN_drewN _ _ _) (congrArg (World.drewN _) (Nat.add_assoc _ _ _))⟩)))
    repeat (go_quiet (first | (go_at_call 89; (with_reducible refine (spec_CostsOk.calls k _ _ l0 true _ ?side1 ?side2 A4.out).mono ?_); (case side1 => repeat (first | exact HR0.out | (with_reducible refine Kd.C_alloc ?_ _) | (with_reducible refine Kd.C_drewN ?_ _) | (with_reducible refine Kd.C_drew ?_))); (case side2 => exact HC0.out); rintro e w' ⟨rfl, ⟨nd, rfl⟩⟩; (try first | exact ⟨rfl, _, World.drewN_drewN _ _ _⟩ | exact ⟨rfl, _, Eq.trans (World.drewN_drewN _ _ _) (congrArg (World.drewN _) (Nat.add_assoc _ _ _))⟩))); try go_wp2_with (first | (go_at_call 89; (with_reducible refine (spec_CostsOk.calls k _ _ l0 true _ ?side1 ?side2 A4.out).mono ?_); (case side1 => repeat (first | exact HR0.out | (with_reducible refine Kd.C_alloc ?_ _) | (with_reducible refine Kd.C_drewN ?_ _) | (with_reducible refine Kd.C_drew ?_))); (case side2 => exact HC0.out); rintro e w' ⟨rfl, ⟨nd, rfl⟩⟩; (try first | exact ⟨rfl, _, World.drewN_drewN _ _ _⟩ | exact ⟨rfl, _, Eq.trans (World.drewN_drewN _ _ _) (congrArg (World.drewN _) (Nat.add_assoc _ _ _))⟩))))
    go_meet
    case rel => exact ⟨_, (((l1.length : Int) != (l0.length : Int))), qz4, H', ⟨by first | omega | exact Nat.le_refl _⟩, by repeat (first | exact Drawn0.refl _ | apply Drawn0.step)⟩
    }
    {
    replace c5 := Bool.eq_false_iff.mpr c5
    subst c5
    have H1 : (spec_SumOf.j0 k l0 l1 true) = some r := by rw [if_neg (show ¬ (false = true) by decide)] at H; exact H
    clear H
    have H := H1
    clear H1
    have H' := Aside0.mk H
    clear H
    go_wp2_with (first | (go_at_call 89; (with_reducible refine (spec_CostsOk.calls k _ _ l0 false _ ?side1 ?side2 A4.out).mono ?_); (case side1 => repeat (first | exact HR0.out | (with_reducible refine Kd.C_alloc ?_ _) | (with_reducible refine Kd.C_drewN ?_ _) | (with_reducible refine Kd.C_drew ?_))); (case side2 => exact HC0.out); rintro e w' ⟨rfl, ⟨nd, rfl⟩⟩; (try first | exact ⟨rfl, _, World.drewN_drewN _ _ _⟩ | exact ⟨rfl, _, Eq.trans (World.drewN_drewN _ _ _) (congrArg (World.drewN _) (Nat.add_assoc _ _ _))⟩)))
    repeat (go_quiet (first | (go_at_call 89; (with_reducible refine (spec_CostsOk.calls k _ _ l0 false _ ?side1 ?side2 A4.out).mono ?_); (case side1 => repeat (first | exact HR0.out | (with_reducible refine Kd.C_alloc ?_ _) | (with_reducible refine Kd.C_drewN ?_ _) | (with_reducible refine Kd.C_drew ?_))); (case side2 => exact HC0.out); rintro e w' ⟨rfl, ⟨nd, rfl⟩⟩; (try first | exact ⟨rfl, _, World.drewN_drewN _ _ _⟩ | exact ⟨rfl, _, Eq.trans (World.drewN_drewN _ _ _) (congrArg (World.drewN _) (Nat.add_assoc _ _ _))⟩))); try go_wp2_with (first | (go_at_call 89; (with_reducible refine (spec_CostsOk.calls k _ _ l0 false _ ?side1 ?side2 A4.out).mono ?_); (case side1 => repeat (first | exact HR0.out | (with_reducible refine Kd.C_alloc ?_ _) | (with_reducible refine Kd.C_drewN ?_ _) | (with_reducible refine Kd.C_drew ?_))); (case side2 => exact HC0.out); rintro e w' ⟨rfl, ⟨nd, rfl⟩⟩; (try first | exact ⟨rfl, _, World.drewN_drewN _ _ _⟩ | exact ⟨rfl, _, Eq.trans (World.drewN_drewN _ _ _) (congrArg (World.drewN _) (Nat.add_assoc _ _ _))⟩))))
    go_meet
    case rel => exact ⟨_, (true), qz4, H', ⟨by first | omega | exact Nat.le_refl _⟩, by repeat (first | exact Drawn0.refl _ | apply Drawn0.step)⟩
    }
  case rest =>
    clear HC3
    try clear c1
    try clear p2
    try clear c3
    try clear c5
    obtain ⟨kq, x17_2, rfl, HA, HJ2, ⟨mc2, rfl⟩⟩ := hcut
    cases kq with
    | zero => exact absurd HA.out (by simp [spec_SumOf.j0])
    | succ kj2 =>
      have H := HA.out
      clear HA
      simp only [spec_SumOf.j0] at H
      by_cases c6 : x17_2 = true
      {
      subst c6
      have H1 : (some (-1)) = some r := by rw [if_pos rfl] at H; exact H
      clear H
      have H := H1
      clear H1
      obtain rfl := Option.some.inj H
      simp only [Option.some.injEq, Prod.mk.injEq] at H
      obtain ⟨rfl⟩ := H
      go_wp2
      repeat (go_quiet (fail); try go_wp2)
      go_ret
      exact ⟨by first | rfl | (simp; done) | (simp [*]; done), by repeat (first | exact Drawn0.refl _ | apply Drawn0.step)⟩
      }
      {
      replace c6 := Bool.eq_false_iff.mpr c6
      subst c6
      have H1 : (spec_SumOf.l0 kj2 l0 l1 0 0) = some r := by rw [if_neg (show ¬ (false = true) by decide)] at H; exact H
      clear H
      have H := H1
      clear H1
      have H' := Aside0.mk H
      clear H
      go_wp2
      repeat (go_quiet (fail); try go_wp2)
      go_loopg [5, 6] kj2 (fun kq v5 v6 w' => ∃ (x5_2 : Int) (x6_2 : Int), v5 = .int .i64 x5_2 ∧ v6 = .int .i64 x6_2 ∧ Aside0 (spec_SumOf.l0 kq l0 l1 x5_2 x6_2 = some r) ∧ Aside0 (kq ≤ kj2) ∧ Drawn0 w w')
      case atStart => exact ⟨(0), (0), qz4, qz4, H', ⟨Nat.le_refl _⟩, by repeat (first | exact Drawn0.refl _ | apply Drawn0.step)⟩
      case round =>
        clear H'
        try clear c1
        try clear c2
        try clear p2
        try clear c3
        try clear c5
        try clear c6
        try clear p2
        obtain ⟨x5_2, x6_2, rfl, rfl, HA, HK2, ⟨m2, rfl⟩⟩ := hrel
        cases gk with
        | zero => exact absurd HA.out (by simp [spec_SumOf.l0])
        | succ k2 =>
          have H := HA.out
          clear HA
          simp only [spec_SumOf.l0] at H
          by_cases c7 : x6_2 < (l1.length : Int)
          {
          rw [if_pos c7] at H
          have c7b0 : decide (x6_2 < (l1.length : Int)) = true := decide_eq_true c7
          clear c7
          by_cases c8 : 0 ≤ x6_2
          {
          rw [if_pos c8] at H
          have c8b0 : decide (0 ≤ x6_2) = true := decide_eq_true c8
          clear c8
          by_cases c9 : x6_2 < (l0.length : Int)
          {
          rw [if_pos c9] at H
          have c9b0 : decide (x6_2 < (l0.length : Int)) = true := decide_eq_true c9
          clear c9
          replace H := Option.bind_eq_some_iff.mp H
          obtain ⟨t132, A100, H⟩ := H
          replace H : (if t132 = true then (spec_SumOf.l1 k2 l0 l1 x5_2 x6_2 0) else (some (-1))) = some r := H
          have A10 := Aside0.mk A100
          clear A100
          by_cases c11 : t132 = true
          {
          subst c11
          have H1 : (spec_SumOf.l1 k2 l0 l1 x5_2 x6_2 0) = some r := by rw [if_pos rfl] at H; exact H
          clear H
          have H := H1
          clear H1
          have H' := Aside0.mk H
          clear H
          have p130 : 0 ≤ (x6_2 : Int) := of_decide_eq_true qz1
          have q130 : x6_2 < (l1.length : Int) := of_decide_eq_true qz1
          obtain ⟨ad130, e130, hx130_0⟩ := Kd.at_int HR1.out x6_2 p130 q130
          cases e130
          replace p130 := eq_true p130
          replace q130 := eq_true q130
          have p131 : 0 ≤ (x6_2 : Int) := of_decide_eq_true qz1
          have q131 : x6_2 < (l0.length : Int) := of_decide_eq_true qz1
          obtain ⟨ad131, A131_0, c131_0, e131, hx131_0, hl131_0, hi131_0⟩ := at_L1 HR0.out x6_2 p131 q131
          cases e131
          have HR131_0 := Aside0.mk hi131_0
          have HC131_0 := Aside0.mk hl131_0
          clear hi131_0 hl131_0
          replace p131 := eq_true p131
          replace q131 := eq_true q131
          go_wp2_with (first | (go_at_call 90; (with_reducible refine (spec_l1In.calls (rd l1 x6_2) 0 (wrap64 (((rd_L1 l0 x6_2).length : Int) - 1)) true _ A10.out).mono ?_); rintro e w' ⟨rfl, ⟨nd, rfl⟩⟩; (try first | exact ⟨rfl, _, World.drewN_drewN _ _ _⟩ | exact ⟨rfl, _, Eq.trans (World.drewN_drewN _ _ _) (congrArg (World.drewN _) (Nat.add_assoc _ _ _))⟩)))
          repeat (go_quiet (first | (go_at_call 90; (with_reducible refine (spec_l1In.calls (rd l1 x6_2) 0 (wrap64 (((rd_L1 l0 x6_2).length : Int) - 1)) true _ A10.out).mono ?_); rintro e w' ⟨rfl, ⟨nd, rfl⟩⟩; (try first | exact ⟨rfl, _, World.drewN_drewN _ _ _⟩ | exact ⟨rfl, _, Eq.trans (World.drewN_drewN _ _ _) (congrArg (World.drewN _) (Nat.add_assoc _ _ _))⟩))); try go_wp2_with (first | (go_at_call 90; (with_reducible refine (spec_l1In.calls (rd l1 x6_2) 0 (wrap64 (((rd_L1 l0 x6_2).length : Int) - 1)) true _ A10.out).mono ?_); rintro e w' ⟨rfl, ⟨nd, rfl⟩⟩; (try first | exact ⟨rfl, _, World.drewN_drewN _ _ _⟩ | exact ⟨rfl, _, Eq.trans (World.drewN_drewN _ _ _) (congrArg (World.drewN _) (Nat.add_assoc _ _ _))⟩))))
          go_loopg [7] k2 (fun kq v7 w' => ∃ (x7_3 : Int), v7 = .int .i64 x7_3 ∧ Aside0 (spec_SumOf.l1 kq l0 l1 x5_2 x6_2 x7_3 = some r) ∧ Aside0 (kq ≤ k2) ∧ Drawn0 w w')
          case atStart => exact ⟨(0), qz4, H', ⟨Nat.le_refl _⟩, by repeat (first | exact Drawn0.refl _ | apply Drawn0.step)⟩
          case round =>
            clear H'
            try clear c1
            try clear p1
            try clear q1
            try clear hx1
            try clear c2
            try clear p2
            try clear c3
            try clear c5
            try clear c6
            try clear p6
            try clear c7
            try clear c7b0
            try clear c8
            try clear c8b0
            try clear c9
            try clear c9b0
            try clear c11
            try clear hx130_0
            try clear hx131_0
            try clear p130
            try clear p131
            try clear p2
            try clear q130
            try clear q131
            obtain ⟨x7_3, rfl, HA, HK3, ⟨m3, rfl⟩⟩ := hrel
            cases gk with
            | zero => exact absurd HA.out (by simp [spec_SumOf.l1])
            | succ k3 =>
              have H := HA.out
              clear HA
              simp only [spec_SumOf.l1] at H
              by_cases c12 : x7_3 < x6_2
              {
              rw [if_pos c12] at H
              have c12b0 : decide (x7_3 < x6_2) = true := decide_eq_true c12
              clear c12
              by_cases c13 : 0 ≤ x7_3
              {
              rw [if_pos c13] at H
              have c13b0 : decide (0 ≤ x7_3) = true := decide_eq_true c13
              clear c13
              by_cases c14 : x7_3 < (l1.length : Int)
              {
              rw [if_pos c14] at H
              have c14b0 : decide (x7_3 < (l1.length : Int)) = true := decide_eq_true c14
              clear c14
              by_cases c15 : 0 ≤ x6_2
              {
              rw [if_pos c15] at H
              have c15b0 : decide (0 ≤ x6_2) = true := decide_eq_true c15
              clear c15
              by_cases c16 : x6_2 < (l1.length : Int)
              {
              rw [if_pos c16] at H
              have c16b0 : decide (x6_2 < (l1.length : Int)) = true := decide_eq_true c16
              clear c16
              by_cases c17 : (rd l1 x7_3) = (rd l1 x6_2)
              {
              rw [if_pos c17] at H
              have c17b0 : ((rd l1 x7_3) == (rd l1 x6_2)) = true := beq_iff_eq.mpr c17
              have c17b1 : ((rd l1 x7_3) != (rd l1 x6_2)) = false := bne_eq_false_iff_eq.mpr c17
              clear c17
              obtain rfl := Option.some.inj H
              simp only [Option.some.injEq, Prod.mk.injEq] at H
              obtain ⟨rfl⟩ := H
              have p133 : 0 ≤ (x7_3 : Int) := of_decide_eq_true qz1
              have q133 : x7_3 < (l1.length : Int) := of_decide_eq_true qz1
              obtain ⟨ad133, e133, hx133_0⟩ := Kd.at_int HR1.out x7_3 p133 q133
              obtain rfl : ad130 = ad133 := (by injection e133)
              replace p133 := eq_true p133
              replace q133 := eq_true q133
              have p134 : 0 ≤ (x6_2 : Int) := of_decide_eq_true qz1
              have q134 : x6_2 < (l1.length : Int) := of_decide_eq_true qz1
              obtain ⟨ad134, e134, hx134_0⟩ := Kd.at_int HR1.out x6_2 p134 q134
              obtain rfl : ad130 = ad134 := (by injection e134)
              replace p134 := eq_true p134
              replace q134 := eq_true q134
              go_wp2
              repeat (go_quiet (fail); try go_wp2)
              go_ret
              exact ⟨by first | rfl | (simp; done) | (simp [*]; done), by repeat (first | exact Drawn0.refl _ | apply Drawn0.step)⟩
              }
              {
              rw [if_neg c17] at H
              have c17b0 : ((rd l1 x7_3) == (rd l1 x6_2)) = false := beq_eq_false_iff_ne.mpr c17
              have c17b1 : ((rd l1 x7_3) != (rd l1 x6_2)) = true := bne_iff_ne.mpr c17
              have H' := Aside0.mk H
              clear H
              have p133 : 0 ≤ (x7_3 : Int) := of_decide_eq_true qz1
              have q133 : x7_3 < (l1.length : Int) := of_decide_eq_true qz1
              obtain ⟨ad133, e133, hx133_0⟩ := Kd.at_int HR1.out x7_3 p133 q133
              obtain rfl : ad130 = ad133 := (by injection e133)
              replace p133 := eq_true p133
              replace q133 := eq_true q133
              have p134 : 0 ≤ (x6_2 : Int) := of_decide_eq_true qz1
              have q134 : x6_2 < (l1.length : Int) := of_decide_eq_true qz1
              obtain ⟨ad134, e134, hx134_0⟩ := Kd.at_int HR1.out x6_2 p134 q134
              obtain rfl : ad130 = ad134 := (by injection e134)
              replace p134 := eq_true p134
              replace q134 := eq_true q134
              go_wp2
              repeat (go_quiet (fail); try go_wp2)
              go_roundg k3
              case measure => have := HJ2.out; have := HK2.out; have := HK3.out; omega
              case rel => exact ⟨(wrap64 (x7_3 + 1)), qz4, H', ⟨by have := HJ2.out; have := HK2.out; have := HK3.out; omega⟩, by repeat (first | exact Drawn0.refl _ | apply Drawn0.step)⟩
              }
              }
              {
              rw [if_neg c16] at H
              exact absurd H (by simp)
              }
              }
              {
              rw [if_neg c15] at H
              exact absurd H (by simp)
              }
              }
              {
              rw [if_neg c14] at H
              exact absurd H (by simp)
              }
              }
              {
              rw [if_neg c13] at H
              exact absurd H (by simp)
              }
              }
              {
              rw [if_neg c12] at H
              have c12b0 : decide (x7_3 < x6_2) = false := decide_eq_false c12
              clear c12
              by_cases c18 : 0 ≤ x6_2
              {
              rw [if_pos c18] at H
              have c18b0 : decide (0 ≤ x6_2) = true := decide_eq_true c18
              clear c18
              by_cases c19 : x6_2 < (l0.length : Int)
              {
              rw [if_pos c19] at H
              have c19b0 : decide (x6_2 < (l0.length : Int)) = true := decide_eq_true c19
              clear c19
              by_cases c20 : x6_2 < (l1.length : Int)
              {
              rw [if_pos c20] at H
              have c20b0 : decide (x6_2 < (l1.length : Int)) = true := decide_eq_true c20
              clear c20
              by_cases c21 : 0 ≤ (rd l1 x6_2)
              {
              rw [if_pos c21] at H
              have c21b0 : decide (0 ≤ (rd l1 x6_2)) = true := decide_eq_true c21
              clear c21
              by_cases c22 : (rd l1 x6_2) < ((rd_L1 l0 x6_2).length : Int)
              {
              rw [if_pos c22] at H
              have c22b0 : decide ((rd l1 x6_2) < ((rd_L1 l0 x6_2).length : Int)) = true := decide_eq_true c22
              clear c22
              have H' := Aside0.mk H
              clear H
              have p135 : 0 ≤ (x6_2 : Int) := of_decide_eq_true qz1
              have q135 : x6_2 < (l0.length : Int) := of_decide_eq_true qz1
              obtain ⟨ad135, A135_0, c135_0, e135, hx135_0, hl135_0, hi135_0⟩ := at_L1 HR0.out x6_2 p135 q135
              obtain rfl : ad131 = ad135 := (by injection e135)
              have HR135_0 := Aside0.mk hi135_0
              have HC135_0 := Aside0.mk hl135_0
              clear hi135_0 hl135_0
              replace p135 := eq_true p135
              replace q135 := eq_true q135
              have p136 : 0 ≤ (x6_2 : Int) := of_decide_eq_true qz1
              have q136 : x6_2 < (l1.length : Int) := of_decide_eq_true qz1
              obtain ⟨ad136, e136, hx136_0⟩ := Kd.at_int HR1.out x6_2 p136 q136
              obtain rfl : ad130 = ad136 := (by injection e136)
              replace p136 := eq_true p136
              replace q136 := eq_true q136
              have p137 : 0 ≤ ((rd l1 x6_2) : Int) := of_decide_eq_true qz1
              have q137 : (rd l1 x6_2) < ((rd_L1 l0 x6_2).length : Int) := of_decide_eq_true qz1
              obtain ⟨ad137, e137, hx137_0⟩ := Kd.at_int HR135_0.out (rd l1 x6_2) p137 q137
              cases e137
              replace p137 := eq_true p137
              replace q137 := eq_true q137
              go_wp2
              repeat (go_quiet (fail); try go_wp2)
              go_roundg k3
              case measure => have := HJ2.out; have := HK2.out; have := HK3.out; omega
              case rel => exact ⟨(wrap64 (x5_2 + (rd (rd_L1 l0 x6_2) (rd l1 x6_2)))), (wrap64 (x6_2 + 1)), qz4, qz4, H', ⟨by have := HJ2.out; have := HK2.out; have := HK3.out; omega⟩, by repeat (first | exact Drawn0.refl _ | apply Drawn0.step)⟩
              }
              {
              rw [if_neg c22] at H
              exact absurd H (by simp)
              }
              }
              {
              rw [if_neg c21] at H
              exact absurd H (by simp)
              }
              }
              {
              rw [if_neg c20] at H
              exact absurd H (by simp)
              }
              }
              {
              rw [if_neg c19] at H
              exact absurd H (by simp)
              }
              }
              {
              rw [if_neg c18] at H
              exact absurd H (by simp)
              }
              }
          }
          {
          replace c11 := Bool.eq_false_iff.mpr c11
          subst c11
          have H1 : (some (-1)) = some r := by rw [if_neg (show ¬ (false = true) by decide)] at H; exact H
          clear H
          have H := H1
          clear H1
          obtain rfl := Option.some.inj H
          simp only [Option.some.injEq, Prod.mk.injEq] at H
          obtain ⟨rfl⟩ := H
          have p130 : 0 ≤ (x6_2 : Int) := of_decide_eq_true qz1
          have q130 : x6_2 < (l1.length : Int) := of_decide_eq_true qz1
          obtain ⟨ad130, e130, hx130_0⟩ := Kd.at_int HR1.out x6_2 p130 q130
          cases e130
          replace p130 := eq_true p130
          replace q130 := eq_true q130
          have p131 : 0 ≤ (x6_2 : Int) := of_decide_eq_true qz1
          have q131 : x6_2 < (l0.length : Int) := of_decide_eq_true qz1
          obtain ⟨ad131, A131_0, c131_0, e131, hx131_0, hl131_0, hi131_0⟩ := at_L1 HR0.out x6_2 p131 q131
          cases e131
          have HR131_0 := Aside0.mk hi131_0
          have HC131_0 := Aside0.mk hl131_0
          clear hi131_0 hl131_0
          replace p131 := eq_true p131
          replace q131 := eq_true q131
          go_wp2_with (first | (go_at_call 90; (with_reducible refine (spec_l1In.calls (rd l1 x6_2) 0 (wrap64 (((rd_L1 l0 x6_2).length : Int) - 1)) false _ A10.out).mono ?_); rintro e w' ⟨rfl, ⟨nd, rfl⟩⟩; (try first | exact ⟨rfl, _, World.drewN_drewN _ _ _⟩ | exact ⟨rfl, _, Eq.trans (World.drewN_drewN _ _ _) (congrArg (World.drewN _) (Nat.add_assoc _ _ _))⟩)))
          repeat (go_quiet (first | (go_at_call 90; (with_reducible refine (spec_l1In.calls (rd l1 x6_2) 0 (wrap64 (((rd_L1 l0 x6_2).length : Int) - 1)) false _ A10.out).mono ?_); rintro e w' ⟨rfl, ⟨nd, rfl⟩⟩; (try first | exact ⟨rfl, _, World.drewN_drewN _ _ _⟩ | exact ⟨rfl, _, Eq.trans (World.drewN_drewN _ _ _) (congrArg (World.drewN _) (Nat.add_assoc _ _ _))⟩))); try go_wp2_with (first | (go_at_call 90; (with_reducible refine (spec_l1In.calls (rd l1 x6_2) 0 (wrap64 (((rd_L1 l0 x6_2).length : Int) - 1)) false _ A10.out).mono ?_); rintro e w' ⟨rfl, ⟨nd, rfl⟩⟩; (try first | exact ⟨rfl, _, World.drewN_drewN _ _ _⟩ | exact ⟨rfl, _, Eq.trans (World.drewN_drewN _ _ _) (congrArg (World.drewN _) (Nat.add_assoc _ _ _))⟩))))
          go_ret
          exact ⟨by first | rfl | (simp; done) | (simp [*]; done), by repeat (first | exact Drawn0.refl _ | apply Drawn0.step)⟩
          }
          }
          {
          rw [if_neg c9] at H
          exact absurd H (by simp)
          }
          }
          {
          rw [if_neg c8] at H
          exact absurd H (by simp)
          }
          }
          {
          rw [if_neg c7] at H
          have c7b0 : decide (x6_2 < (l1.length : Int)) = false := decide_eq_false c7
          clear c7
          obtain rfl := Option.some.inj H
          simp only [Option.some.injEq, Prod.mk.injEq] at H
          obtain ⟨rfl⟩ := H
          go_wp2
          repeat (go_quiet (fail); try go_wp2)
          go_ret
          exact ⟨by first | rfl | (simp; done) | (simp [*]; done), by repeat (first | exact Drawn0.refl _ | apply Drawn0.step)⟩

          }
      }
/-! ### spec_l4Small: function 112 -/
def spec_l4Small.l0 : Nat → List Int → Int → Option (Bool)
  | 0, _, _ => none
  | k + 1, x0, x3 => if x3 < (x0.length : Int) then (if 0 ≤ x3 then ((spec_l1In.f (rd x0 x3) (-1000000) 1000000).bind fun t139 => (if t139 = true then (spec_l4Small.l0 k x0 (wrap64 (x3 + 1))) else (some false))) else (none)) else (some true)
def spec_l4Small.f (k : Nat) (l0 : List Int) : Option (Bool) := spec_l4Small.l0 k l0 0
theorem spec_l4Small.mono_l : ∀ k, (∀ y0 y1, LeO (spec_l4Small.l0 k y0 y1) (spec_l4Small.l0 (k + 1) y0 y1))
  | 0 => fun _ _ r h => by simp [spec_l4Small.l0] at h
  | k + 1 => by
    have ih0 := spec_l4Small.mono_l k
    {
    intro y0 y1
    unfold spec_l4Small.l0
    repeat' first
    | (with_reducible exact ih0 _ _)
    | (with_reducible exact LeO.refl _)
    | (with_reducible exact LeO.none _)
    | (with_reducible refine LeO.ite ?_ ?_)
    | (with_reducible refine LeO.bind ?_ (fun _ => ?_))
    | exact ih0 _ _
    | exact LeO.none _
    | refine LeO.ite ?_ ?_
    | refine LeO.bind ?_ (fun _ => ?_)
    }
theorem spec_l4Small.mono : ∀ a0 k, LeO (spec_l4Small.f k a0) (spec_l4Small.f (k + 1) a0) := by
  intro a0 k
  have ih0 := spec_l4Small.mono_l k
  unfold spec_l4Small.f
  repeat' first
      | (with_reducible exact ih0 _ _)
      | (with_reducible exact LeO.refl _)
      | (with_reducible exact LeO.none _)
      | (with_reducible refine LeO.ite ?_ ?_)
      | (with_reducible refine LeO.bind ?_ (fun _ => ?_))
      | exact ih0 _ _
      | exact LeO.none _
      | refine LeO.ite ?_ ?_
      | refine LeO.bind ?_ (fun _ => ?_)
set_option maxHeartbeats 8000000 in
set_option maxRecDepth 100000 in
theorem spec_l4Small.calls (k : Nat) (A0 : Option Addr) (c0 : Nat) (l0 : List Int) (r : Bool) (w : World) (hr0 : Kd.C (Kd.int .i64) w A0 l0.length l0) (hc0 : l0.length ≤ c0) (h : spec_l4Small.f k l0 = some r) :
    Calls Try.prog 112 #[.slice A0 l0.length c0] w fun e w' => e = .returned (.bool r) ∧ Drawn0 w w' := by
  have HR0 := Aside0.mk hr0
  have HC0 := Aside0.mk hc0
  clear hr0 hc0
  have H : (spec_l4Small.l0 k l0 0) = some r := h
  clear h
  have H' := Aside0.mk H
  clear H
  go_enter Try.func112, Try.ntmps112
  go_wp2
  go_loopg [3] k (fun kq v3 w' => ∃ (x3_1 : Int), v3 = .int .i64 x3_1 ∧ Aside0 (spec_l4Small.l0 kq l0 x3_1 = some r) ∧ Aside0 (kq ≤ k) ∧ Drawn0 w w')
  case atStart => exact ⟨(0), qz4, H', ⟨Nat.le_refl _⟩, by repeat (first | exact Drawn0.refl _ | apply Drawn0.step)⟩
  case round =>
    clear H'
    try clear c1
    obtain ⟨x3_1, rfl, HA, HK1, ⟨m1, rfl⟩⟩ := hrel
    cases gk with
    | zero => exact absurd HA.out (by simp [spec_l4Small.l0])
    | succ k1 =>
      have H := HA.out
      clear HA
      simp only [spec_l4Small.l0] at H
      by_cases c2 : x3_1 < (l0.length : Int)
      {
      rw [if_pos c2] at H
      have c2b0 : decide (x3_1 < (l0.length : Int)) = true := decide_eq_true c2
      clear c2
      by_cases c3 : 0 ≤ x3_1
      {
      rw [if_pos c3] at H
      have c3b0 : decide (0 ≤ x3_1) = true := decide_eq_true c3
      clear c3
      replace H := Option.bind_eq_some_iff.mp H
      obtain ⟨t139, A40, H⟩ := H
      replace H : (if t139 = true then (spec_l4Small.l0 k1 l0 (wrap64 (x3_1 + 1))) else (some false)) = some r := H
      have A4 := Aside0.mk A40
      clear A40
      by_cases c5 : t139 = true
      {
      subst c5
      have H1 : (spec_l4Small.l0 k1 l0 (wrap64 (x3_1 + 1))) = some r := by rw [if_pos rfl] at H; exact H
      clear H
      have H := H1
      clear H1
      have H' := Aside0.mk H
      clear H
      have p138 : 0 ≤ (x3_1 : Int) := of_decide_eq_true qz1
      have q138 : x3_1 < (l0.length : Int) := of_decide_eq_true qz1
      obtain ⟨ad138, e138, hx138_0⟩ := Kd.at_int HR0.out x3_1 p138 q138
      cases e138
      replace p138 := eq_true p138
      replace q138 := eq_true q138
      go_wp2_with (first | ((with_reducible refine gate_callee (f := 90) rfl ?_); refine goesL_ (some 14) rfl rfl Try.func90 (by kernel_rfl) rfl #[.int .i64 (rd l0 x3_1), .int .i64 (-1000000), .int .i64 1000000] rfl qz3 ?_; (with_reducible refine (spec_l1In.calls (rd l0 x3_1) (-1000000) 1000000 true _ A4.out).mono ?_); rintro e w' ⟨rfl, ⟨nd, rfl⟩⟩; refine ⟨_, rfl, ?_⟩))
      go_roundg k1
      case measure => have := HK1.out; omega
      case rel => exact ⟨(wrap64 (x3_1 + 1)), qz4, H', ⟨by have := HK1.out; omega⟩, by repeat (first | exact Drawn0.refl _ | apply Drawn0.step)⟩
      }
      {
      replace c5 := Bool.eq_false_iff.mpr c5
      subst c5
      have H1 : (some false) = some r := by rw [if_neg (show ¬ (false = true) by decide)] at H; exact H
      clear H
      have H := H1
      clear H1
      obtain rfl := Option.some.inj H
      simp only [Option.some.injEq, Prod.mk.injEq] at H
      obtain ⟨rfl⟩ := H
      have p138 : 0 ≤ (x3_1 : Int) := of_decide_eq_true qz1
      have q138 : x3_1 < (l0.length : Int) := of_decide_eq_true qz1
      obtain ⟨ad138, e138, hx138_0⟩ := Kd.at_int HR0.out x3_1 p138 q138
      cases e138
      replace p138 := eq_true p138
      replace q138 := eq_true q138
      go_wp2_with (first | ((with_reducible refine gate_callee (f := 90) rfl ?_); refine goesL_ (some 14) rfl rfl Try.func90 (by kernel_rfl) rfl #[.int .i64 (rd l0 x3_1), .int .i64 (-1000000), .int .i64 1000000] rfl qz3 ?_; (with_reducible refine (spec_l1In.calls (rd l0 x3_1) (-1000000) 1000000 false _ A4.out).mono ?_); rintro e w' ⟨rfl, ⟨nd, rfl⟩⟩; refine ⟨_, rfl, ?_⟩))
      go_ret
      exact ⟨by first | rfl | (simp; done) | (simp [*]; done), by repeat (first | exact Drawn0.refl _ | apply Drawn0.step)⟩
      }
      }
      {
      rw [if_neg c3] at H
      exact absurd H (by simp)
      }
      }
      {
      rw [if_neg c2] at H
      have c2b0 : decide (x3_1 < (l0.length : Int)) = false := decide_eq_false c2
      clear c2
      obtain rfl := Option.some.inj H
      simp only [Option.some.injEq, Prod.mk.injEq] at H
      obtain ⟨rfl⟩ := H
      go_wp2
      go_ret
      exact ⟨by first | rfl | (simp; done) | (simp [*]; done), by repeat (first | exact Drawn0.refl _ | apply Drawn0.step)⟩

      }
end Go.Proofs.Ytjeonneegmhcdaa.PFnExactProves
