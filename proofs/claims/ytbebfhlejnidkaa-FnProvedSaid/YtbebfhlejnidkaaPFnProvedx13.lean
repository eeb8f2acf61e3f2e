-- Made by a program of this session out of the translation. Lean checks it.
import Derived.Test.YtbebfhlejnidkaaPFnProvedx6
namespace Go.Proofs.Ytbebfhlejnidkaa.PFnProved
open Go.RowKit Go.Proofs.YtbebfhlejnidkaaW.PrintWords Go.Proofs.YtbebfhlejnidkaaW.PrintLast Go.Proofs.YtbebfhlejnidkaaW.PrintMore
attribute [local go_sem] max2_int min2_int max_two min_two max_three min_three max_four min_four   -- for this text's walks alone
set_option linter.unusedVariables false
set_option linter.unusedSimpArgs false

/-! ### spec_SumOf: function 24 -/
mutual
def spec_SumOf.j0 : Nat → List (List Int) → List Int → Bool → Option (Int)
 | 0, _, _, _ => none
 | k + 1, x0, x1, x17 => if x17 = true then (some (-1)) else (spec_SumOf.l0 k x0 x1 0 0)
def spec_SumOf.l0 : Nat → List (List Int) → List Int → Int → Int → Option (Int)
 | 0, _, _, _, _ => none
 | k + 1, x0, x1, x5, x6 => if x6 < (x1.length : Int) then (if 0 ≤ x6 then (if x6 < (x0.length : Int) then ((spec_l1In.f (rd x1 x6) 0 (wrap64 (((rd_L1 x0 x6).length : Int) - 1))).bind fun t472 => (if t472 = true then (spec_SumOf.l1 k x0 x1 x5 x6 0) else (some (-1)))) else (none)) else (none)) else (some x5)
def spec_SumOf.l1 : Nat → List (List Int) → List Int → Int → Int → Int → Option (Int)
 | 0, _, _, _, _, _ => none
 | k + 1, x0, x1, x5, x6, x7 => if x7 < x6 then (if 0 ≤ x7 then (if x7 < (x1.length : Int) then (if 0 ≤ x6 then (if x6 < (x1.length : Int) then (if (rd x1 x7) = (rd x1 x6) then (some (-1)) else (spec_SumOf.l1 k x0 x1 x5 x6 (wrap64 (x7 + 1)))) else (none)) else (none)) else (none)) else (none)) else (if 0 ≤ x6 then (if x6 < (x0.length : Int) then (if x6 < (x1.length : Int) then (if 0 ≤ (rd x1 x6) then (if (rd x1 x6) < ((rd_L1 x0 x6).length : Int) then (spec_SumOf.l0 k x0 x1 (wrap64 (x5 + (rd (rd_L1 x0 x6) (rd x1 x6)))) (wrap64 (x6 + 1))) else (none)) else (none)) else (none)) else (none)) else (none))
end
def spec_SumOf.f (k : Nat) (l0 : List (List Int)) (l1 : List Int) : Option (Int) := (spec_CostsOk.f k l0).bind fun t469 => (if t469 = true then (spec_SumOf.j0 k l0 l1 ((l1.length : Int) != (l0.length : Int))) else (spec_SumOf.j0 k l0 l1 true))
theorem spec_SumOf.mono_l : ∀ k, (∀ y0 y1 y2, LeO (spec_SumOf.j0 k y0 y1 y2) (spec_SumOf.j0 (k + 1) y0 y1 y2)) ∧ (∀ y0 y1 y2 y3, LeO (spec_SumOf.l0 k y0 y1 y2 y3) (spec_SumOf.l0 (k + 1) y0 y1 y2 y3)) ∧ (∀ y0 y1 y2 y3 y4, LeO (spec_SumOf.l1 k y0 y1 y2 y3 y4) (spec_SumOf.l1 (k + 1) y0 y1 y2 y3 y4))
 | 0 => ⟨fun _ _ _ r h => by simp [spec_SumOf.j0] at h, fun _ _ _ _ r h => by simp [spec_SumOf.l0] at h, fun _ _ _ _ _ r h => by simp [spec_SumOf.l1] at h⟩
 | k + 1 => by
  obtain ⟨ih0, ih1, ih2⟩ := spec_SumOf.mono_l k
  refine ⟨?_, ?_, ?_⟩
  {
  intro y0 y1 y2
  unfold spec_SumOf.j0
  have j0 := @spec_CostsOk.mono
  exact qL
  }
  {
  intro y0 y1 y2 y3
  unfold spec_SumOf.l0
  have j0 := @spec_CostsOk.mono
  exact qL
  }
  {
  intro y0 y1 y2 y3 y4
  unfold spec_SumOf.l1
  have j0 := @spec_CostsOk.mono
  exact qL
  }
theorem spec_SumOf.mono : ∀ a0 a1 k, LeO (spec_SumOf.f k a0 a1) (spec_SumOf.f (k + 1) a0 a1) := by
 intro a0 a1 k
 obtain ⟨ih0, ih1, ih2⟩ := spec_SumOf.mono_l k
 unfold spec_SumOf.f
 have j0 := @spec_CostsOk.mono
 exact qL
set_option maxHeartbeats 8000000 in
set_option maxRecDepth 100000 in
theorem spec_SumOf.calls (k : Nat) (A0 : Option Addr) (c0 : Nat) (l0 : List (List Int)) (A1 : Option Addr) (c1 : Nat) (l1 : List Int) (r : Int) (w : World) (hr0 : Kd.C (Kd.slice 3 (Kd.int .i64)) w A0 l0.length l0) (hc0 : l0.length ≤ c0) (hr1 : Kd.C (Kd.int .i64) w A1 l1.length l1) (hc1 : l1.length ≤ c1) (h : spec_SumOf.f k l0 l1 = some r) :
  Calls Try.prog 24 #[.slice A0 l0.length c0, .slice A1 l1.length c1] w fun e w' => e = .returned (.int .i64 r) ∧ Drawn0 w w' := by
 have HR0 := aM hr0
 have HC0 := aM hc0
 clear hr0 hc0
 have HR1 := aM hr1
 have HC1 := aM hc1
 clear hr1 hc1
 have H : ((spec_CostsOk.f k l0).bind fun t469 => (if t469 = true then (spec_SumOf.j0 k l0 l1 ((l1.length : Int) != (l0.length : Int))) else (spec_SumOf.j0 k l0 l1 true))) = some r := h
 clear h
 have HC3 := aM H
 clear H
 go_enter Try.func24, Try.ntmps24
 go_upto_region 1 with (fail)
 repeat (go_quiet (fail); go_upto_region 1 with (fail))
 go_cut [17] (fun v17 wc => ∃ (kq : Nat) (x17_2 : Bool), v17 = .bool x17_2 ∧ Aside0 (spec_SumOf.j0 kq l0 l1 x17_2 = some r) ∧ Aside0 (kq ≤ k) ∧ Drawn0 w wc)
 case first =>
  have H := HC3.out
  clear HC3
  replace H := Option.bind_eq_some_iff.mp H
  obtain ⟨t469, A40, H⟩ := H
  replace H : (if t469 = true then (spec_SumOf.j0 k l0 l1 ((l1.length : Int) != (l0.length : Int))) else (spec_SumOf.j0 k l0 l1 true)) = some r := H
  have A4 := aM A40
  clear A40
  by_cases c5 : t469 = true
  {
  subst c5
  rw [if_pos rfl] at H
  have H' := aM H
  clear H
  go_wp2_with (first | (go_at_call 25; (with_reducible refine (spec_CostsOk.calls k _ _ l0 true _ ?side1 ?side2 A4.out).mono ?_); (case side1 => exact qz7); (case side2 => exact HC0.out); rintro e w' ⟨rfl, ⟨nd, rfl⟩⟩; (try first | exact ⟨rfl, _, World.drewN_drewN _ _ _⟩ | exact ⟨rfl, _, Eq.trans (World.drewN_drewN _ _ _) (congrArg (World.drewN _) (Nat.add_assoc _ _ _))⟩)))
  repeat (go_quiet (first | (go_at_call 25; (with_reducible refine (spec_CostsOk.calls k _ _ l0 true _ ?side1 ?side2 A4.out).mono ?_); (case side1 => exact qz7); (case side2 => exact HC0.out); rintro e w' ⟨rfl, ⟨nd, rfl⟩⟩; (try first | exact ⟨rfl, _, World.drewN_drewN _ _ _⟩ | exact ⟨rfl, _, Eq.trans (World.drewN_drewN _ _ _) (congrArg (World.drewN _) (Nat.add_assoc _ _ _))⟩))); try go_wp2_with (first | (go_at_call 25; (with_reducible refine (spec_CostsOk.calls k _ _ l0 true _ ?side1 ?side2 A4.out).mono ?_); (case side1 => exact qz7); (case side2 => exact HC0.out); rintro e w' ⟨rfl, ⟨nd, rfl⟩⟩; (try first | exact ⟨rfl, _, World.drewN_drewN _ _ _⟩ | exact ⟨rfl, _, Eq.trans (World.drewN_drewN _ _ _) (congrArg (World.drewN _) (Nat.add_assoc _ _ _))⟩))))
  go_meet
  case rel => exact ⟨_, (((l1.length : Int) != (l0.length : Int))), qz5, H', ⟨by first | omega | exact Nat.le_refl _⟩, by repeat (first | exact Drawn0.refl _ | apply Drawn0.step)⟩
  }
  {
  replace c5 := Bool.eq_false_iff.mpr c5
  subst c5
  rw [if_neg (show ¬ (false = true) by decide)] at H
  have H' := aM H
  clear H
  go_wp2_with (first | (go_at_call 25; (with_reducible refine (spec_CostsOk.calls k _ _ l0 false _ ?side1 ?side2 A4.out).mono ?_); (case side1 => exact qz7); (case side2 => exact HC0.out); rintro e w' ⟨rfl, ⟨nd, rfl⟩⟩; (try first | exact ⟨rfl, _, World.drewN_drewN _ _ _⟩ | exact ⟨rfl, _, Eq.trans (World.drewN_drewN _ _ _) (congrArg (World.drewN _) (Nat.add_assoc _ _ _))⟩)))
  repeat (go_quiet (first | (go_at_call 25; (with_reducible refine (spec_CostsOk.calls k _ _ l0 false _ ?side1 ?side2 A4.out).mono ?_); (case side1 => exact qz7); (case side2 => exact HC0.out); rintro e w' ⟨rfl, ⟨nd, rfl⟩⟩; (try first | exact ⟨rfl, _, World.drewN_drewN _ _ _⟩ | exact ⟨rfl, _, Eq.trans (World.drewN_drewN _ _ _) (congrArg (World.drewN _) (Nat.add_assoc _ _ _))⟩))); try go_wp2_with (first | (go_at_call 25; (with_reducible refine (spec_CostsOk.calls k _ _ l0 false _ ?side1 ?side2 A4.out).mono ?_); (case side1 => exact qz7); (case side2 => exact HC0.out); rintro e w' ⟨rfl, ⟨nd, rfl⟩⟩; (try first | exact ⟨rfl, _, World.drewN_drewN _ _ _⟩ | exact ⟨rfl, _, Eq.trans (World.drewN_drewN _ _ _) (congrArg (World.drewN _) (Nat.add_assoc _ _ _))⟩))))
  go_meet
  case rel => exact ⟨_, (true), qz5, H', ⟨by first | omega | exact Nat.le_refl _⟩, by repeat (first | exact Drawn0.refl _ | apply Drawn0.step)⟩
  }
 case rest =>
  clear HC3
  try clear c1
  try clear c2
  try clear p2
  try clear c5
  obtain ⟨kq, x17_2, rfl, HA, HJ2, ⟨mc2, rfl⟩⟩ := hcut
  cases kq with
  | zero => exact absurd HA.out (by simp [spec_SumOf.j0])
  | succ kj2 =>
   have H := HA.out
   clear HA
   simp only [spec_SumOf.j0] at H
   by_cases c6 : x17_2 = true
   {
   subst c6
   rw [if_pos rfl] at H
   obtain rfl := Option.some.inj H
   simp only [Option.some.injEq, Prod.mk.injEq] at H
   obtain ⟨rfl⟩ := H
   go_wp2
   repeat (go_quiet (fail); try go_wp2)
   go_ret
   exact ⟨by first | rfl | (simp; done) | (simp [*]; done), by repeat (first | exact Drawn0.refl _ | apply Drawn0.step)⟩
   }
   {
   replace c6 := Bool.eq_false_iff.mpr c6
   subst c6
   rw [if_neg (show ¬ (false = true) by decide)] at H
   have H' := aM H
   clear H
   go_wp2
   repeat (go_quiet (fail); try go_wp2)
   go_loopg [5, 6] kj2 (fun kq v5 v6 w' => ∃ (x5_2 : Int) (x6_2 : Int), v5 = .int .i64 x5_2 ∧ v6 = .int .i64 x6_2 ∧ Aside0 (spec_SumOf.l0 kq l0 l1 x5_2 x6_2 = some r) ∧ Aside0 (kq ≤ kj2) ∧ Drawn0 w w')
   case atStart => exact ⟨(0), (0), qz5, qz5, H', ⟨Nat.le_refl _⟩, by repeat (first | exact Drawn0.refl _ | apply Drawn0.step)⟩
   case round =>
    clear H'
    try clear c1
    try clear c2
    try clear p2
    try clear c5
    try clear c6
    obtain ⟨x5_2, x6_2, rfl, rfl, HA, HK2, ⟨m2, rfl⟩⟩ := hrel
    cases gk with
    | zero => exact absurd HA.out (by simp [spec_SumOf.l0])
    | succ k2 =>
     have H := HA.out
     clear HA
     simp only [spec_SumOf.l0] at H
     by_cases c7 : x6_2 < (l1.length : Int)
     {
     rw [if_pos c7] at H
     have c7b0 := decide_eq_true c7
     clear c7
     by_cases c8 : 0 ≤ x6_2
     {
     rw [if_pos c8] at H
     have c8b0 := decide_eq_true c8
     clear c8
     by_cases c9 : x6_2 < (l0.length : Int)
     {
     rw [if_pos c9] at H
     have c9b0 := decide_eq_true c9
     clear c9
     replace H := Option.bind_eq_some_iff.mp H
     obtain ⟨t472, A100, H⟩ := H
     replace H : (if t472 = true then (spec_SumOf.l1 k2 l0 l1 x5_2 x6_2 0) else (some (-1))) = some r := H
     have A10 := aM A100
     clear A100
     by_cases c11 : t472 = true
     {
     subst c11
     rw [if_pos rfl] at H
     have H' := aM H
     clear H
     have p470 : 0 ≤ (x6_2 : Int) := dt_
     have q470 : x6_2 < (l1.length : Int) := dt_
     obtain ⟨ad470, e470, hx470_0⟩ := Kd.at_int HR1.out x6_2 p470 q470
     cases e470
     replace p470 := eq_true p470
     replace q470 := eq_true q470
     have p471 : 0 ≤ (x6_2 : Int) := dt_
     have q471 : x6_2 < (l0.length : Int) := dt_
     obtain ⟨ad471, A471_0, c471_0, e471, hx471_0, hl471_0, hi471_0⟩ := at_L1 HR0.out x6_2 p471 q471
     cases e471
     have HR471_0 := aM hi471_0
     have HC471_0 := aM hl471_0
     clear hi471_0 hl471_0
     replace p471 := eq_true p471
     replace q471 := eq_true q471
     go_wp2_with (first | (go_at_call 50; (with_reducible refine (spec_l1In.calls (rd l1 x6_2) 0 (wrap64 (((rd_L1 l0 x6_2).length : Int) - 1)) true _ A10.out).mono ?_); rintro e w' ⟨rfl, ⟨nd, rfl⟩⟩; (try first | exact ⟨rfl, _, World.drewN_drewN _ _ _⟩ | exact ⟨rfl, _, Eq.trans (World.drewN_drewN _ _ _) (congrArg (World.drewN _) (Nat.add_assoc _ _ _))⟩)))
     repeat (go_quiet (first | (go_at_call 50; (with_reducible refine (spec_l1In.calls (rd l1 x6_2) 0 (wrap64 (((rd_L1 l0 x6_2).length : Int) - 1)) true _ A10.out).mono ?_); rintro e w' ⟨rfl, ⟨nd, rfl⟩⟩; (try first | exact ⟨rfl, _, World.drewN_drewN _ _ _⟩ | exact ⟨rfl, _, Eq.trans (World.drewN_drewN _ _ _) (congrArg (World.drewN _) (Nat.add_assoc _ _ _))⟩))); try go_wp2_with (first | (go_at_call 50; (with_reducible refine (spec_l1In.calls (rd l1 x6_2) 0 (wrap64 (((rd_L1 l0 x6_2).length : Int) - 1)) true _ A10.out).mono ?_); rintro e w' ⟨rfl, ⟨nd, rfl⟩⟩; (try first | exact ⟨rfl, _, World.drewN_drewN _ _ _⟩ | exact ⟨rfl, _, Eq.trans (World.drewN_drewN _ _ _) (congrArg (World.drewN _) (Nat.add_assoc _ _ _))⟩))))
     go_loopg [7] k2 (fun kq v7 w' => ∃ (x7_3 : Int), v7 = .int .i64 x7_3 ∧ Aside0 (spec_SumOf.l1 kq l0 l1 x5_2 x6_2 x7_3 = some r) ∧ Aside0 (kq ≤ k2) ∧ Drawn0 w w')
     case atStart => exact ⟨(0), qz5, H', ⟨Nat.le_refl _⟩, by repeat (first | exact Drawn0.refl _ | apply Drawn0.step)⟩
     case round =>
      clear H'
      try clear c1
      try clear c2
      try clear p2
      try clear c4
      try clear p4
      try clear q4
      try clear hx4
      try clear c5
      try clear c6
      try clear p6
      try clear c7
      try clear c7b0
      try clear c8
      try clear c8b0
      try clear c9
      try clear c9b0
      try clear c11
      try clear hx470_0
      try clear hx471_0
      try clear p470
      try clear p471
      try clear q470
      try clear q471
      obtain ⟨x7_3, rfl, HA, HK3, ⟨m3, rfl⟩⟩ := hrel
      cases gk with
      | zero => exact absurd HA.out (by simp [spec_SumOf.l1])
      | succ k3 =>
       have H := HA.out
       clear HA
       simp only [spec_SumOf.l1] at H
       by_cases c12 : x7_3 < x6_2
       {
       rw [if_pos c12] at H
       have c12b0 := decide_eq_true c12
       clear c12
       by_cases c13 : 0 ≤ x7_3
       {
       rw [if_pos c13] at H
       have c13b0 := decide_eq_true c13
       clear c13
       by_cases c14 : x7_3 < (l1.length : Int)
       {
       rw [if_pos c14] at H
       have c14b0 := decide_eq_true c14
       clear c14
       by_cases c15 : 0 ≤ x6_2
       {
       rw [if_pos c15] at H
       have c15b0 := decide_eq_true c15
       clear c15
       by_cases c16 : x6_2 < (l1.length : Int)
       {
       rw [if_pos c16] at H
       have c16b0 := decide_eq_true c16
       clear c16
       by_cases c17 : (rd l1 x7_3) = (rd l1 x6_2)
       {
       rw [if_pos c17] at H
       have c17b0 := beq_iff_eq.mpr c17
       have c17b1 := bne_eq_false_iff_eq.mpr c17
       clear c17
       obtain rfl := Option.some.inj H
       simp only [Option.some.injEq, Prod.mk.injEq] at H
       obtain ⟨rfl⟩ := H
       have p473 : 0 ≤ (x7_3 : Int) := dt_
       have q473 : x7_3 < (l1.length : Int) := dt_
       obtain ⟨ad473, e473, hx473_0⟩ := Kd.at_int HR1.out x7_3 p473 q473
       obtain rfl : ad470 = ad473 := (by injection e473)
       replace p473 := eq_true p473
       replace q473 := eq_true q473
       have p474 : 0 ≤ (x6_2 : Int) := dt_
       have q474 : x6_2 < (l1.length : Int) := dt_
       obtain ⟨ad474, e474, hx474_0⟩ := Kd.at_int HR1.out x6_2 p474 q474
       obtain rfl : ad470 = ad474 := (by injection e474)
       replace p474 := eq_true p474
       replace q474 := eq_true q474
       go_wp2
       repeat (go_quiet (fail); try go_wp2)
       go_ret
       exact ⟨by first | rfl | (simp; done) | (simp [*]; done), by repeat (first | exact Drawn0.refl _ | apply Drawn0.step)⟩
       }
       {
       rw [if_neg c17] at H
       have c17b0 := beq_eq_false_iff_ne.mpr c17
       have c17b1 := bne_iff_ne.mpr c17
       have H' := aM H
       clear H
       have p473 : 0 ≤ (x7_3 : Int) := dt_
       have q473 : x7_3 < (l1.length : Int) := dt_
       obtain ⟨ad473, e473, hx473_0⟩ := Kd.at_int HR1.out x7_3 p473 q473
       obtain rfl : ad470 = ad473 := (by injection e473)
       replace p473 := eq_true p473
       replace q473 := eq_true q473
       have p474 : 0 ≤ (x6_2 : Int) := dt_
       have q474 : x6_2 < (l1.length : Int) := dt_
       obtain ⟨ad474, e474, hx474_0⟩ := Kd.at_int HR1.out x6_2 p474 q474
       obtain rfl : ad470 = ad474 := (by injection e474)
       replace p474 := eq_true p474
       replace q474 := eq_true q474
       go_wp2
       repeat (go_quiet (fail); try go_wp2)
       go_roundg k3
       case measure => have := HJ2.out; have := HK2.out; have := HK3.out; omega
       case rel => exact ⟨(wrap64 (x7_3 + 1)), qz5, H', ⟨by have := HJ2.out; have := HK2.out; have := HK3.out; omega⟩, by repeat (first | exact Drawn0.refl _ | apply Drawn0.step)⟩
       }
       }
       {
       exact an_ c16 H
       }
       }
       {
       exact an_ c15 H
       }
       }
       {
       exact an_ c14 H
       }
       }
       {
       exact an_ c13 H
       }
       }
       {
       rw [if_neg c12] at H
       have c12b0 := decide_eq_false c12
       clear c12
       by_cases c18 : 0 ≤ x6_2
       {
       rw [if_pos c18] at H
       have c18b0 := decide_eq_true c18
       clear c18
       by_cases c19 : x6_2 < (l0.length : Int)
       {
       rw [if_pos c19] at H
       have c19b0 := decide_eq_true c19
       clear c19
       by_cases c20 : x6_2 < (l1.length : Int)
       {
       rw [if_pos c20] at H
       have c20b0 := decide_eq_true c20
       clear c20
       by_cases c21 : 0 ≤ (rd l1 x6_2)
       {
       rw [if_pos c21] at H
       have c21b0 := decide_eq_true c21
       clear c21
       by_cases c22 : (rd l1 x6_2) < ((rd_L1 l0 x6_2).length : Int)
       {
       rw [if_pos c22] at H
       have c22b0 := decide_eq_true c22
       clear c22
       have H' := aM H
       clear H
       have p475 : 0 ≤ (x6_2 : Int) := dt_
       have q475 : x6_2 < (l0.length : Int) := dt_
       obtain ⟨ad475, A475_0, c475_0, e475, hx475_0, hl475_0, hi475_0⟩ := at_L1 HR0.out x6_2 p475 q475
       obtain rfl : ad471 = ad475 := (by injection e475)
       have HR475_0 := aM hi475_0
       have HC475_0 := aM hl475_0
       clear hi475_0 hl475_0
       replace p475 := eq_true p475
       replace q475 := eq_true q475
       have p476 : 0 ≤ (x6_2 : Int) := dt_
       have q476 : x6_2 < (l1.length : Int) := dt_
       obtain ⟨ad476, e476, hx476_0⟩ := Kd.at_int HR1.out x6_2 p476 q476
       obtain rfl : ad470 = ad476 := (by injection e476)
       replace p476 := eq_true p476
       replace q476 := eq_true q476
       have p477 : 0 ≤ ((rd l1 x6_2) : Int) := dt_
       have q477 : (rd l1 x6_2) < ((rd_L1 l0 x6_2).length : Int) := dt_
       obtain ⟨ad477, e477, hx477_0⟩ := Kd.at_int HR475_0.out (rd l1 x6_2) p477 q477
       cases e477
       replace p477 := eq_true p477
       replace q477 := eq_true q477
       go_wp2
       repeat (go_quiet (fail); try go_wp2)
       go_roundg k3
       case measure => have := HJ2.out; have := HK2.out; have := HK3.out; omega
       case rel => exact ⟨(wrap64 (x5_2 + (rd (rd_L1 l0 x6_2) (rd l1 x6_2)))), (wrap64 (x6_2 + 1)), qz5, qz5, H', ⟨by have := HJ2.out; have := HK2.out; have := HK3.out; omega⟩, by repeat (first | exact Drawn0.refl _ | apply Drawn0.step)⟩
       }
       {
       exact an_ c22 H
       }
       }
       {
       exact an_ c21 H
       }
       }
       {
       exact an_ c20 H
       }
       }
       {
       exact an_ c19 H
       }
       }
       {
       exact an_ c18 H
       }
       }
     }
     {
     replace c11 := Bool.eq_false_iff.mpr c11
     subst c11
     rw [if_neg (show ¬ (false = true) by decide)] at H
     obtain rfl := Option.some.inj H
     simp only [Option.some.injEq, Prod.mk.injEq] at H
     obtain ⟨rfl⟩ := H
     have p470 : 0 ≤ (x6_2 : Int) := dt_
     have q470 : x6_2 < (l1.length : Int) := dt_
     obtain ⟨ad470, e470, hx470_0⟩ := Kd.at_int HR1.out x6_2 p470 q470
     cases e470
     replace p470 := eq_true p470
     replace q470 := eq_true q470
     have p471 : 0 ≤ (x6_2 : Int) := dt_
     have q471 : x6_2 < (l0.length : Int) := dt_
     obtain ⟨ad471, A471_0, c471_0, e471, hx471_0, hl471_0, hi471_0⟩ := at_L1 HR0.out x6_2 p471 q471
     cases e471
     have HR471_0 := aM hi471_0
     have HC471_0 := aM hl471_0
     clear hi471_0 hl471_0
     replace p471 := eq_true p471
     replace q471 := eq_true q471
     go_wp2_with (first | (go_at_call 50; (with_reducible refine (spec_l1In.calls (rd l1 x6_2) 0 (wrap64 (((rd_L1 l0 x6_2).length : Int) - 1)) false _ A10.out).mono ?_); rintro e w' ⟨rfl, ⟨nd, rfl⟩⟩; (try first | exact ⟨rfl, _, World.drewN_drewN _ _ _⟩ | exact ⟨rfl, _, Eq.trans (World.drewN_drewN _ _ _) (congrArg (World.drewN _) (Nat.add_assoc _ _ _))⟩)))
     repeat (go_quiet (first | (go_at_call 50; (with_reducible refine (spec_l1In.calls (rd l1 x6_2) 0 (wrap64 (((rd_L1 l0 x6_2).length : Int) - 1)) false _ A10.out).mono ?_); rintro e w' ⟨rfl, ⟨nd, rfl⟩⟩; (try first | exact ⟨rfl, _, World.drewN_drewN _ _ _⟩ | exact ⟨rfl, _, Eq.trans (World.drewN_drewN _ _ _) (congrArg (World.drewN _) (Nat.add_assoc _ _ _))⟩))); try go_wp2_with (first | (go_at_call 50; (with_reducible refine (spec_l1In.calls (rd l1 x6_2) 0 (wrap64 (((rd_L1 l0 x6_2).length : Int) - 1)) false _ A10.out).mono ?_); rintro e w' ⟨rfl, ⟨nd, rfl⟩⟩; (try first | exact ⟨rfl, _, World.drewN_drewN _ _ _⟩ | exact ⟨rfl, _, Eq.trans (World.drewN_drewN _ _ _) (congrArg (World.drewN _) (Nat.add_assoc _ _ _))⟩))))
     go_ret
     exact ⟨by first | rfl | (simp; done) | (simp [*]; done), by repeat (first | exact Drawn0.refl _ | apply Drawn0.step)⟩
     }
     }
     {
     exact an_ c9 H
     }
     }
     {
     exact an_ c8 H
     }
     }
     {
     rw [if_neg c7] at H
     have c7b0 := decide_eq_false c7
     clear c7
     obtain rfl := Option.some.inj H
     simp only [Option.some.injEq, Prod.mk.injEq] at H
     obtain ⟨rfl⟩ := H
     go_wp2
     repeat (go_quiet (fail); try go_wp2)
     go_ret
     exact ⟨by first | rfl | (simp; done) | (simp [*]; done), by repeat (first | exact Drawn0.refl _ | apply Drawn0.step)⟩

     }
   }
/-! ### spec_l4Small: function 49 -/
def spec_l4Small.l0 : Nat → List Int → Int → Option (Bool)
 | 0, _, _ => none
 | k + 1, x0, x3 => if x3 < (x0.length : Int) then (if 0 ≤ x3 then ((spec_l1In.f (rd x0 x3) (-1000000) 1000000).bind fun t479 => (if t479 = true then (spec_l4Small.l0 k x0 (wrap64 (x3 + 1))) else (some false))) else (none)) else (some true)
def spec_l4Small.f (k : Nat) (l0 : List Int) : Option (Bool) := spec_l4Small.l0 k l0 0
theorem spec_l4Small.mono_l : ∀ k, (∀ y0 y1, LeO (spec_l4Small.l0 k y0 y1) (spec_l4Small.l0 (k + 1) y0 y1))
 | 0 => fun _ _ r h => by simp [spec_l4Small.l0] at h
 | k + 1 => by
  have ih0 := spec_l4Small.mono_l k
  {
  intro y0 y1
  unfold spec_l4Small.l0
  exact qL
  }
theorem spec_l4Small.mono : ∀ a0 k, LeO (spec_l4Small.f k a0) (spec_l4Small.f (k + 1) a0) := by
 intro a0 k
 have ih0 := spec_l4Small.mono_l k
 unfold spec_l4Small.f
 exact qL
set_option maxHeartbeats 8000000 in
set_option maxRecDepth 100000 in
theorem spec_l4Small.calls (k : Nat) (A0 : Option Addr) (c0 : Nat) (l0 : List Int) (r : Bool) (w : World) (hr0 : Kd.C (Kd.int .i64) w A0 l0.length l0) (hc0 : l0.length ≤ c0) (h : spec_l4Small.f k l0 = some r) :
  Calls Try.prog 49 #[.slice A0 l0.length c0] w fun e w' => e = .returned (.bool r) ∧ Drawn0 w w' := by
 have HR0 := aM hr0
 have HC0 := aM hc0
 clear hr0 hc0
 have H : (spec_l4Small.l0 k l0 0) = some r := h
 clear h
 have H' := aM H
 clear H
 go_enter Try.func49, Try.ntmps49
 go_wp2
 go_loopg [3] k (fun kq v3 w' => ∃ (x3_1 : Int), v3 = .int .i64 x3_1 ∧ Aside0 (spec_l4Small.l0 kq l0 x3_1 = some r) ∧ Aside0 (kq ≤ k) ∧ Drawn0 w w')
 case atStart => exact ⟨(0), qz5, H', ⟨Nat.le_refl _⟩, by repeat (first | exact Drawn0.refl _ | apply Drawn0.step)⟩
 case round =>
  clear H'
  obtain ⟨x3_1, rfl, HA, HK1, ⟨m1, rfl⟩⟩ := hrel
  cases gk with
  | zero => exact absurd HA.out (by simp [spec_l4Small.l0])
  | succ k1 =>
   have H := HA.out
   clear HA
   simp only [spec_l4Small.l0] at H
   by_cases c2 : x3_1 < (l0.length : Int)
   {
   rw [if_pos c2] at H
   have c2b0 := decide_eq_true c2
   clear c2
   by_cases c3 : 0 ≤ x3_1
   {
   rw [if_pos c3] at H
   have c3b0 := decide_eq_true c3
   clear c3
   replace H := Option.bind_eq_some_iff.mp H
   obtain ⟨t479, A40, H⟩ := H
   replace H : (if t479 = true then (spec_l4Small.l0 k1 l0 (wrap64 (x3_1 + 1))) else (some false)) = some r := H
   have A4 := aM A40
   clear A40
   by_cases c5 : t479 = true
   {
   subst c5
   rw [if_pos rfl] at H
   have H' := aM H
   clear H
   have p478 : 0 ≤ (x3_1 : Int) := dt_
   have q478 : x3_1 < (l0.length : Int) := dt_
   obtain ⟨ad478, e478, hx478_0⟩ := Kd.at_int HR0.out x3_1 p478 q478
   cases e478
   replace p478 := eq_true p478
   replace q478 := eq_true q478
   go_wp2_with (first | ((with_reducible refine gate_callee (f := 50) rfl ?_); refine goesL_ (some 14) rfl rfl Try.func50 (by kernel_rfl) rfl #[.int .i64 (rd l0 x3_1), .int .i64 (-1000000), .int .i64 1000000] rfl qz3 ?_; (with_reducible refine (spec_l1In.calls (rd l0 x3_1) (-1000000) 1000000 true _ A4.out).mono ?_); rintro e w' ⟨rfl, ⟨nd, rfl⟩⟩; refine ⟨_, rfl, ?_⟩))
   go_roundg k1
   case measure => have := HK1.out; omega
   case rel => exact ⟨(wrap64 (x3_1 + 1)), qz5, H', ⟨by have := HK1.out; omega⟩, by repeat (first | exact Drawn0.refl _ | apply Drawn0.step)⟩
   }
   {
   replace c5 := Bool.eq_false_iff.mpr c5
   subst c5
   rw [if_neg (show ¬ (false = true) by decide)] at H
   obtain rfl := Option.some.inj H
   simp only [Option.some.injEq, Prod.mk.injEq] at H
   obtain ⟨rfl⟩ := H
   have p478 : 0 ≤ (x3_1 : Int) := dt_
   have q478 : x3_1 < (l0.length : Int) := dt_
   obtain ⟨ad478, e478, hx478_0⟩ := Kd.at_int HR0.out x3_1 p478 q478
   cases e478
   replace p478 := eq_true p478
   replace q478 := eq_true q478
   go_wp2_with (first | ((with_reducible refine gate_callee (f := 50) rfl ?_); refine goesL_ (some 14) rfl rfl Try.func50 (by kernel_rfl) rfl #[.int .i64 (rd l0 x3_1), .int .i64 (-1000000), .int .i64 1000000] rfl qz3 ?_; (with_reducible refine (spec_l1In.calls (rd l0 x3_1) (-1000000) 1000000 false _ A4.out).mono ?_); rintro e w' ⟨rfl, ⟨nd, rfl⟩⟩; refine ⟨_, rfl, ?_⟩))
   go_ret
   exact ⟨by first | rfl | (simp; done) | (simp [*]; done), by repeat (first | exact Drawn0.refl _ | apply Drawn0.step)⟩
   }
   }
   {
   exact an_ c3 H
   }
   }
   {
   rw [if_neg c2] at H
   have c2b0 := decide_eq_false c2
   clear c2
   obtain rfl := Option.some.inj H
   simp only [Option.some.injEq, Prod.mk.injEq] at H
   obtain ⟨rfl⟩ := H
   go_wp2
   go_ret
   exact ⟨by first | rfl | (simp; done) | (simp [*]; done), by repeat (first | exact Drawn0.refl _ | apply Drawn0.step)⟩

   }
end Go.Proofs.Ytbebfhlejnidkaa.PFnProved
