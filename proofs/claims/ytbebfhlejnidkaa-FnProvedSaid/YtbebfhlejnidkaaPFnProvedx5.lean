-- Made by a program of this session out of the translation. Lean checks it.
import Derived.Test.YtbebfhlejnidkaaPFnProvedx4
namespace Go.Proofs.Ytbebfhlejnidkaa.PFnProved
open Go.RowKit Go.Proofs.YtbebfhlejnidkaaW.PrintWords Go.Proofs.YtbebfhlejnidkaaW.PrintLast Go.Proofs.YtbebfhlejnidkaaW.PrintMore
attribute [local go_sem] max2_int min2_int max_two min_two max_three min_three max_four min_four   -- for this text's walks alone
set_option linter.unusedVariables false
set_option linter.unusedSimpArgs false

/-! ### impl_Proves: function 21 -/
mutual
def impl_Proves.j0 : Nat → List (List Int) → List Int → List Int → List Int → Int → Option (Bool)
 | 0, _, _, _, _, _ => none
 | k + 1, x0, x1, x2, x3, x9 => (impl_SumOf.f k x0 x1).bind fun t171 => (if t171 < 0 then (impl_Proves.j1 k x0 x1 x2 x3 true) else (if (x2.length : Int) = (x0.length : Int) then (if (x3.length : Int) = x9 then ((impl_pricesOk.f k x2).bind fun t172 => (if t172 = true then ((impl_pricesOk.f k x3).bind fun t173 => (impl_Proves.j1 k x0 x1 x2 x3 (!t173))) else (impl_Proves.j1 k x0 x1 x2 x3 true))) else (impl_Proves.j1 k x0 x1 x2 x3 true)) else (impl_Proves.j1 k x0 x1 x2 x3 true)))
def impl_Proves.j1 : Nat → List (List Int) → List Int → List Int → List Int → Bool → Option (Bool)
 | 0, _, _, _, _, _ => none
 | k + 1, x0, x1, x2, x3, x49 => if x49 = true then (some false) else (impl_Proves.l0 k x1 x2 x3 x0 (x0.length : Int) 0)
def impl_Proves.l0 : Nat → List Int → List Int → List Int → List (List Int) → Int → Int → Option (Bool)
 | 0, _, _, _, _, _, _ => none
 | k + 1, x1, x2, x3, x50, x51, x52 => if x52 < x51 then (if 0 ≤ x52 then (if x52 < (x50.length : Int) then (impl_Proves.l1 k x1 x2 x3 x52 x50 x51 x52 (rd_L1 x50 x52) ((rd_L1 x50 x52).length : Int) 0) else (none)) else (none)) else (impl_Proves.l2 k x1 x3 (x3.length : Int) 0)
def impl_Proves.l1 : Nat → List Int → List Int → List Int → Int → List (List Int) → Int → Int → List Int → Int → Int → Option (Bool)
 | 0, _, _, _, _, _, _, _, _, _, _ => none
 | k + 1, x1, x2, x3, x10, x50, x51, x52, x57, x58, x59 => if x59 < x58 then (if 0 ≤ x59 then (if x59 < (x57.length : Int) then (if 0 ≤ x10 then (if x10 < (x2.length : Int) then (if x59 < (x3.length : Int) then (if (wrap64 ((rd x2 x10) + (rd x3 x59))) > (rd x57 x59) then (some false) else (if x10 < (x1.length : Int) then (if (rd x1 x10) = x59 then (if (wrap64 ((rd x2 x10) + (rd x3 x59))) = (rd x57 x59) then (impl_Proves.l1 k x1 x2 x3 x10 x50 x51 x52 x57 x58 (wrap64 (x59 + 1))) else (some false)) else (impl_Proves.l1 k x1 x2 x3 x10 x50 x51 x52 x57 x58 (wrap64 (x59 + 1)))) else (none))) else (none)) else (none)) else (none)) else (none)) else (none)) else (impl_Proves.l0 k x1 x2 x3 x50 x51 (wrap64 (x52 + 1)))
def impl_Proves.l2 : Nat → List Int → List Int → Int → Int → Option (Bool)
 | 0, _, _, _, _ => none
 | k + 1, x1, x98, x99, x100 => if x100 < x99 then (if 0 ≤ x100 then (if x100 < (x98.length : Int) then (if (rd x98 x100) > 0 then (some false) else (if (rd x98 x100) = 0 then (impl_Proves.l2 k x1 x98 x99 (wrap64 (x100 + 1))) else ((impl_hasInt.f k x1 x100).bind fun t182 => (if t182 = true then (impl_Proves.l2 k x1 x98 x99 (wrap64 (x100 + 1))) else (some false))))) else (none)) else (none)) else (some true)
end
def impl_Proves.f (k : Nat) (l0 : List (List Int)) (l1 : List Int) (l2 : List Int) (l3 : List Int) : Option (Bool) := if (l0.length : Int) > 0 then (if 0 < (l0.length : Int) then (impl_Proves.j0 k l0 l1 l2 l3 ((rd_L1 l0 0).length : Int)) else (none)) else (impl_Proves.j0 k l0 l1 l2 l3 0)
theorem impl_Proves.mono_l : ∀ k, (∀ y0 y1 y2 y3 y4, LeO (impl_Proves.j0 k y0 y1 y2 y3 y4) (impl_Proves.j0 (k + 1) y0 y1 y2 y3 y4)) ∧ (∀ y0 y1 y2 y3 y4, LeO (impl_Proves.j1 k y0 y1 y2 y3 y4) (impl_Proves.j1 (k + 1) y0 y1 y2 y3 y4)) ∧ (∀ y0 y1 y2 y3 y4 y5, LeO (impl_Proves.l0 k y0 y1 y2 y3 y4 y5) (impl_Proves.l0 (k + 1) y0 y1 y2 y3 y4 y5)) ∧ (∀ y0 y1 y2 y3 y4 y5 y6 y7 y8 y9, LeO (impl_Proves.l1 k y0 y1 y2 y3 y4 y5 y6 y7 y8 y9) (impl_Proves.l1 (k + 1) y0 y1 y2 y3 y4 y5 y6 y7 y8 y9)) ∧ (∀ y0 y1 y2 y3, LeO (impl_Proves.l2 k y0 y1 y2 y3) (impl_Proves.l2 (k + 1) y0 y1 y2 y3))
 | 0 => ⟨fun _ _ _ _ _ r h => by simp [impl_Proves.j0] at h, fun _ _ _ _ _ r h => by simp [impl_Proves.j1] at h, fun _ _ _ _ _ _ r h => by simp [impl_Proves.l0] at h, fun _ _ _ _ _ _ _ _ _ _ r h => by simp [impl_Proves.l1] at h, fun _ _ _ _ r h => by simp [impl_Proves.l2] at h⟩
 | k + 1 => by
  obtain ⟨ih0, ih1, ih2, ih3, ih4⟩ := impl_Proves.mono_l k
  refine ⟨?_, ?_, ?_, ?_, ?_⟩
  {
  intro y0 y1 y2 y3 y4
  unfold impl_Proves.j0
  have j0 := @impl_SumOf.mono
  have j1 := @impl_hasInt.mono
  have j2 := @impl_pricesOk.mono
  exact qL
  }
  {
  intro y0 y1 y2 y3 y4
  unfold impl_Proves.j1
  have j0 := @impl_SumOf.mono
  have j1 := @impl_hasInt.mono
  have j2 := @impl_pricesOk.mono
  exact qL
  }
  {
  intro y0 y1 y2 y3 y4 y5
  unfold impl_Proves.l0
  have j0 := @impl_SumOf.mono
  have j1 := @impl_hasInt.mono
  have j2 := @impl_pricesOk.mono
  exact qL
  }
  {
  intro y0 y1 y2 y3 y4 y5 y6 y7 y8 y9
  unfold impl_Proves.l1
  have j0 := @impl_SumOf.mono
  have j1 := @impl_hasInt.mono
  have j2 := @impl_pricesOk.mono
  exact qL
  }
  {
  intro y0 y1 y2 y3
  unfold impl_Proves.l2
  have j0 := @impl_SumOf.mono
  have j1 := @impl_hasInt.mono
  have j2 := @impl_pricesOk.mono
  exact qL
  }
theorem impl_Proves.mono : ∀ a0 a1 a2 a3 k, LeO (impl_Proves.f k a0 a1 a2 a3) (impl_Proves.f (k + 1) a0 a1 a2 a3) := by
 intro a0 a1 a2 a3 k
 obtain ⟨ih0, ih1, ih2, ih3, ih4⟩ := impl_Proves.mono_l k
 unfold impl_Proves.f
 have j0 := @impl_SumOf.mono
 have j1 := @impl_hasInt.mono
 have j2 := @impl_pricesOk.mono
 exact qL
set_option maxHeartbeats 8000000 in
set_option maxRecDepth 100000 in
theorem impl_Proves.calls (k : Nat) (A0 : Option Addr) (c0 : Nat) (l0 : List (List Int)) (A1 : Option Addr) (c1 : Nat) (l1 : List Int) (A2 : Option Addr) (c2 : Nat) (l2 : List Int) (A3 : Option Addr) (c3 : Nat) (l3 : List Int) (r : Bool) (w : World) (hr0 : Kd.C (Kd.slice 3 (Kd.int .i64)) w A0 l0.length l0) (hc0 : l0.length ≤ c0) (hr1 : Kd.C (Kd.int .i64) w A1 l1.length l1) (hc1 : l1.length ≤ c1) (hr2 : Kd.C (Kd.int .i64) w A2 l2.length l2) (hc2 : l2.length ≤ c2) (hr3 : Kd.C (Kd.int .i64) w A3 l3.length l3) (hc3 : l3.length ≤ c3) (h : impl_Proves.f k l0 l1 l2 l3 = some r) :
  Calls Try.prog 21 #[.slice A0 l0.length c0, .slice A1 l1.length c1, .slice A2 l2.length c2, .slice A3 l3.length c3] w fun e w' => e = .returned (.bool r) ∧ Drawn0 w w' := by
 have HR0 := aM hr0
 have HC0 := aM hc0
 clear hr0 hc0
 have HR1 := aM hr1
 have HC1 := aM hc1
 clear hr1 hc1
 have HR2 := aM hr2
 have HC2 := aM hc2
 clear hr2 hc2
 have HR3 := aM hr3
 have HC3 := aM hc3
 clear hr3 hc3
 have H : (if (l0.length : Int) > 0 then (if 0 < (l0.length : Int) then (impl_Proves.j0 k l0 l1 l2 l3 ((rd_L1 l0 0).length : Int)) else (none)) else (impl_Proves.j0 k l0 l1 l2 l3 0)) = some r := h
 clear h
 have HC5 := aM H
 clear H
 go_enter Try.func21, Try.ntmps21
 go_upto_if 18 with (fail)
 repeat (go_quiet (fail); go_upto_if 18 with (fail))
 go_cut [9] (fun v9 wc => ∃ (kq : Nat) (x9_4 : Int), v9 = .int .i64 x9_4 ∧ Aside0 (impl_Proves.j0 kq l0 l1 l2 l3 x9_4 = some r) ∧ Aside0 (kq ≤ k) ∧ Drawn0 w wc)
 case first =>
  have H := HC5.out
  clear HC5
  by_cases c6 : (l0.length : Int) > 0
  {
  rw [if_pos c6] at H
  have c6b0 := decide_eq_true c6
  have c6b1 : decide (0 < l0.length) = true := decide_eq_true (by omega)
  clear c6
  (first | rw [c6b0] | (simp only [i64_w, i32_w]; rw [c6b0]) | rw [@decide_eq_true _ _ (of_decide_eq_true c6b0)] | rw [@decide_eq_true _ _ (of_decide_eq_true c6b1)] | skip)
  by_cases c7 : 0 < (l0.length : Int)
  {
  rw [if_pos c7] at H
  have c7b0 := decide_eq_true c7
  have c7b1 : decide (0 < l0.length) = true := decide_eq_true (by omega)
  clear c7
  have H' := aM H
  clear H
  have p170 : 0 ≤ (0 : Int) := (by omega)
  have q170 : 0 < (l0.length : Int) := dt_
  obtain ⟨ad170, A170_0, c170_0, e170, hx170_0, hl170_0, hi170_0⟩ := at_L1 HR0.out 0 p170 q170
  cases e170
  have qi170 : (0 < l0.length) = True := eq_true (by omega)
  (try rw [show ((0 : Int)).toNat = 0 from rfl] at hx170_0)
  (try rw [Addr.add_zero'] at hx170_0)
  have HR170_0 := aM hi170_0
  have HC170_0 := aM hl170_0
  clear hi170_0 hl170_0
  replace p170 := eq_true p170
  replace q170 := eq_true q170
  go_wp2
  repeat (go_quiet (fail); try go_wp2)
  go_meet
  case rel => exact ⟨_, (((rd_L1 l0 0).length : Int)), qz5, H', ⟨by first | omega | exact Nat.le_refl _⟩, by repeat (first | exact Drawn0.refl _ | apply Drawn0.step)⟩
  }
  {
  exact an_ c7 H
  }
  }
  {
  rw [if_neg c6] at H
  have c6b0 := decide_eq_false c6
  have c6b1 : decide (0 < l0.length) = false := decide_eq_false (by omega)
  clear c6
  (first | rw [c6b0] | (simp only [i64_w, i32_w]; rw [c6b0]) | rw [@decide_eq_false _ _ (of_decide_eq_false c6b0)] | rw [@decide_eq_false _ _ (of_decide_eq_false c6b1)] | skip)
  have H' := aM H
  clear H
  go_wp2
  repeat (go_quiet (fail); try go_wp2)
  go_meet
  case rel => exact ⟨_, (0), qz5, H', ⟨by first | omega | exact Nat.le_refl _⟩, by repeat (first | exact Drawn0.refl _ | apply Drawn0.step)⟩
  }
 case rest =>
  clear HC5
  try clear c1
  try clear p1
  try clear q1
  try clear hx1
  try clear qi1
  try clear c2
  try clear p2
  try clear c3
  try clear c6
  try clear c6b0
  try clear c6b1
  try clear c7
  try clear c7b0
  try clear c7b1
  try clear hx170_0
  try clear p170
  try clear q170
  obtain ⟨kq, x9_4, rfl, HA, HJ4, ⟨mc4, rfl⟩⟩ := hcut
  cases kq with
  | zero => exact absurd HA.out (by simp [impl_Proves.j0])
  | succ kj4 =>
   have H := HA.out
   clear HA
   simp only [impl_Proves.j0] at H
   have HC8 := aM H
   clear H
   go_upto_region 4 with (fail)
   repeat (go_quiet (fail); go_upto_region 4 with (fail))
   go_cut [49] (fun v49 wc => ∃ (kq : Nat) (x49_7 : Bool), v49 = .bool x49_7 ∧ Aside0 (impl_Proves.j1 kq l0 l1 l2 l3 x49_7 = some r) ∧ Aside0 (kq ≤ kj4) ∧ Drawn0 w wc)
   case first =>
    have H := HC8.out
    clear HC8
    replace H := Option.bind_eq_some_iff.mp H
    obtain ⟨t171, A90, H⟩ := H
    replace H : (if t171 < 0 then (impl_Proves.j1 kj4 l0 l1 l2 l3 true) else (if (l2.length : Int) = (l0.length : Int) then (if (l3.length : Int) = x9_4 then ((impl_pricesOk.f kj4 l2).bind fun t172 => (if t172 = true then ((impl_pricesOk.f kj4 l3).bind fun t173 => (impl_Proves.j1 kj4 l0 l1 l2 l3 (!t173))) else (impl_Proves.j1 kj4 l0 l1 l2 l3 true))) else (impl_Proves.j1 kj4 l0 l1 l2 l3 true)) else (impl_Proves.j1 kj4 l0 l1 l2 l3 true))) = some r := H
    have A9 := aM A90
    clear A90
    by_cases c10 : t171 < 0
    {
    rw [if_pos c10] at H
    have c10b0 := decide_eq_true c10
    clear c10
    (first | rw [c10b0] | (simp only [i64_w, i32_w]; rw [c10b0]) | rw [@decide_eq_true _ _ (of_decide_eq_true c10b0)] | rw [@decide_eq_true _ _ (of_decide_eq_true c10b1)] | skip)
    have H' := aM H
    clear H
    go_wp2_with (first | (go_at_call 20; (with_reducible refine (impl_SumOf.calls kj4 _ _ l0 _ _ l1 t171 _ ?side1 ?side2 ?side3 ?side4 A9.out).mono ?_); (case side1 => exact qz7); (case side2 => exact HC0.out); (case side3 => exact qz10); (case side4 => exact HC1.out); rintro e w' ⟨rfl, ⟨nd, rfl⟩⟩; (try first | exact ⟨rfl, _, World.drewN_drewN _ _ _⟩ | exact ⟨rfl, _, Eq.trans (World.drewN_drewN _ _ _) (congrArg (World.drewN _) (Nat.add_assoc _ _ _))⟩)))
    repeat (go_quiet (first | (go_at_call 20; (with_reducible refine (impl_SumOf.calls kj4 _ _ l0 _ _ l1 t171 _ ?side1 ?side2 ?side3 ?side4 A9.out).mono ?_); (case side1 => exact qz7); (case side2 => exact HC0.out); (case side3 => exact qz10); (case side4 => exact HC1.out); rintro e w' ⟨rfl, ⟨nd, rfl⟩⟩; (try first | exact ⟨rfl, _, World.drewN_drewN _ _ _⟩ | exact ⟨rfl, _, Eq.trans (World.drewN_drewN _ _ _) (congrArg (World.drewN _) (Nat.add_assoc _ _ _))⟩))); try go_wp2_with (first | (go_at_call 20; (with_reducible refine (impl_SumOf.calls kj4 _ _ l0 _ _ l1 t171 _ ?side1 ?side2 ?side3 ?side4 A9.out).mono ?_); (case side1 => exact qz7); (case side2 => exact HC0.out); (case side3 => exact qz10); (case side4 => exact HC1.out); rintro e w' ⟨rfl, ⟨nd, rfl⟩⟩; (try first | exact ⟨rfl, _, World.drewN_drewN _ _ _⟩ | exact ⟨rfl, _, Eq.trans (World.drewN_drewN _ _ _) (congrArg (World.drewN _) (Nat.add_assoc _ _ _))⟩))))
    go_meet
    case rel => exact ⟨_, (true), qz5, H', ⟨by have := HJ4.out; first | omega | exact Nat.le_refl _⟩, by repeat (first | exact Drawn0.refl _ | apply Drawn0.step)⟩
    }
    {
    rw [if_neg c10] at H
    have c10b0 := decide_eq_false c10
    clear c10
    (first | rw [c10b0] | (simp only [i64_w, i32_w]; rw [c10b0]) | rw [@decide_eq_false _ _ (of_decide_eq_false c10b0)] | rw [@decide_eq_false _ _ (of_decide_eq_false c10b1)] | skip)
    by_cases c11 : (l2.length : Int) = (l0.length : Int)
    {
    rw [if_pos c11] at H
    have c11b0 := beq_iff_eq.mpr c11
    have c11b1 := bne_eq_false_iff_eq.mpr c11
    have c11b2 : (l2.length == l0.length) = true := by first | simpa using c11 | (simp at c11 ⊢; omega)
    clear c11
    by_cases c12 : (l3.length : Int) = x9_4
    {
    rw [if_pos c12] at H
    have c12b0 := beq_iff_eq.mpr c12
    have c12b1 := bne_eq_false_iff_eq.mpr c12
    clear c12
    replace H := Option.bind_eq_some_iff.mp H
    obtain ⟨t172, A130, H⟩ := H
    replace H : (if t172 = true then ((impl_pricesOk.f kj4 l3).bind fun t173 => (impl_Proves.j1 kj4 l0 l1 l2 l3 (!t173))) else (impl_Proves.j1 kj4 l0 l1 l2 l3 true)) = some r := H
    have A13 := aM A130
    clear A130
    by_cases c14 : t172 = true
    {
    subst c14
    rw [if_pos rfl] at H
    replace H := Option.bind_eq_some_iff.mp H
    obtain ⟨t173, A150, H⟩ := H
    replace H : (impl_Proves.j1 kj4 l0 l1 l2 l3 (!t173)) = some r := H
    have A15 := aM A150
    clear A150
    have H' := aM H
    clear H
    go_wp2_with (first | (go_at_call 20; (with_reducible refine (impl_SumOf.calls kj4 _ _ l0 _ _ l1 t171 _ ?side1 ?side2 ?side3 ?side4 A9.out).mono ?_); (case side1 => exact qz7); (case side2 => exact HC0.out); (case side3 => exact qz10); (case side4 => exact HC1.out); rintro e w' ⟨rfl, ⟨nd, rfl⟩⟩; (try first | exact ⟨rfl, _, World.drewN_drewN _ _ _⟩ | exact ⟨rfl, _, Eq.trans (World.drewN_drewN _ _ _) (congrArg (World.drewN _) (Nat.add_assoc _ _ _))⟩)) | (go_at_call 43; (with_reducible refine (impl_pricesOk.calls kj4 _ _ l2 true _ ?side1 ?side2 A13.out).mono ?_); (case side1 => exact qz19); (case side2 => exact HC2.out); rintro e w' ⟨rfl, ⟨nd, rfl⟩⟩; (try first | exact ⟨rfl, _, World.drewN_drewN _ _ _⟩ | exact ⟨rfl, _, Eq.trans (World.drewN_drewN _ _ _) (congrArg (World.drewN _) (Nat.add_assoc _ _ _))⟩)) | (go_at_call 43; (with_reducible refine (impl_pricesOk.calls kj4 _ _ l3 t173 _ ?side1 ?side2 A15.out).mono ?_); (case side1 => exact qz45); (case side2 => exact HC3.out); rintro e w' ⟨rfl, ⟨nd, rfl⟩⟩; (try first | exact ⟨rfl, _, World.drewN_drewN _ _ _⟩ | exact ⟨rfl, _, Eq.trans (World.drewN_drewN _ _ _) (congrArg (World.drewN _) (Nat.add_assoc _ _ _))⟩)))
    repeat (go_quiet (first | (go_at_call 20; (with_reducible refine (impl_SumOf.calls kj4 _ _ l0 _ _ l1 t171 _ ?side1 ?side2 ?side3 ?side4 A9.out).mono ?_); (case side1 => exact qz7); (case side2 => exact HC0.out); (case side3 => exact qz10); (case side4 => exact HC1.out); rintro e w' ⟨rfl, ⟨nd, rfl⟩⟩; (try first | exact ⟨rfl, _, World.drewN_drewN _ _ _⟩ | exact ⟨rfl, _, Eq.trans (World.drewN_drewN _ _ _) (congrArg (World.drewN _) (Nat.add_assoc _ _ _))⟩)) | (go_at_call 43; (with_reducible refine (impl_pricesOk.calls kj4 _ _ l2 true _ ?side1 ?side2 A13.out).mono ?_); (case side1 => exact qz19); (case side2 => exact HC2.out); rintro e w' ⟨rfl, ⟨nd, rfl⟩⟩; (try first | exact ⟨rfl, _, World.drewN_drewN _ _ _⟩ | exact ⟨rfl, _, Eq.trans (World.drewN_drewN _ _ _) (congrArg (World.drewN _) (Nat.add_assoc _ _ _))⟩)) | (go_at_call 43; (with_reducible refine (impl_pricesOk.calls kj4 _ _ l3 t173 _ ?side1 ?side2 A15.out).mono ?_); (case side1 => exact qz45); (case side2 => exact HC3.out); rintro e w' ⟨rfl, ⟨nd, rfl⟩⟩; (try first | exact ⟨rfl, _, World.drewN_drewN _ _ _⟩ | exact ⟨rfl, _, Eq.trans (World.drewN_drewN _ _ _) (congrArg (World.drewN _) (Nat.add_assoc _ _ _))⟩))); try go_wp2_with (first | (go_at_call 20; (with_reducible refine (impl_SumOf.calls kj4 _ _ l0 _ _ l1 t171 _ ?side1 ?side2 ?side3 ?side4 A9.out).mono ?_); (case side1 => exact qz7); (case side2 => exact HC0.out); (case side3 => exact qz10); (case side4 => exact HC1.out); rintro e w' ⟨rfl, ⟨nd, rfl⟩⟩; (try first | exact ⟨rfl, _, World.drewN_drewN _ _ _⟩ | exact ⟨rfl, _, Eq.trans (World.drewN_drewN _ _ _) (congrArg (World.drewN _) (Nat.add_assoc _ _ _))⟩)) | (go_at_call 43; (with_reducible refine (impl_pricesOk.calls kj4 _ _ l2 true _ ?side1 ?side2 A13.out).mono ?_); (case side1 => exact qz19); (case side2 => exact HC2.out); rintro e w' ⟨rfl, ⟨nd, rfl⟩⟩; (try first | exact ⟨rfl, _, World.drewN_drewN _ _ _⟩ | exact ⟨rfl, _, Eq.trans (World.drewN_drewN _ _ _) (congrArg (World.drewN _) (Nat.add_assoc _ _ _))⟩)) | (go_at_call 43; (with_reducible refine (impl_pricesOk.calls kj4 _ _ l3 t173 _ ?side1 ?side2 A15.out).mono ?_); (case side1 => exact qz45); (case side2 => exact HC3.out); rintro e w' ⟨rfl, ⟨nd, rfl⟩⟩; (try first | exact ⟨rfl, _, World.drewN_drewN _ _ _⟩ | exact ⟨rfl, _, Eq.trans (World.drewN_drewN _ _ _) (congrArg (World.drewN _) (Nat.add_assoc _ _ _))⟩))))
    go_meet
    case rel => exact ⟨_, (!t173), qz5, H', ⟨by have := HJ4.out; first | omega | exact Nat.le_refl _⟩, by repeat (first | exact Drawn0.refl _ | apply Drawn0.step)⟩
    }
    {
    replace c14 := Bool.eq_false_iff.mpr c14
    subst c14
    rw [if_neg (show ¬ (false = true) by decide)] at H
    have H' := aM H
    clear H
    go_wp2_with (first | (go_at_call 20; (with_reducible refine (impl_SumOf.calls kj4 _ _ l0 _ _ l1 t171 _ ?side1 ?side2 ?side3 ?side4 A9.out).mono ?_); (case side1 => exact qz7); (case side2 => exact HC0.out); (case side3 => exact qz10); (case side4 => exact HC1.out); rintro e w' ⟨rfl, ⟨nd, rfl⟩⟩; (try first | exact ⟨rfl, _, World.drewN_drewN _ _ _⟩ | exact ⟨rfl, _, Eq.trans (World.drewN_drewN _ _ _) (congrArg (World.drewN _) (Nat.add_assoc _ _ _))⟩)) | (go_at_call 43; (with_reducible refine (impl_pricesOk.calls kj4 _ _ l2 false _ ?side1 ?side2 A13.out).mono ?_); (case side1 => exact qz19); (case side2 => exact HC2.out); rintro e w' ⟨rfl, ⟨nd, rfl⟩⟩; (try first | exact ⟨rfl, _, World.drewN_drewN _ _ _⟩ | exact ⟨rfl, _, Eq.trans (World.drewN_drewN _ _ _) (congrArg (World.drewN _) (Nat.add_assoc _ _ _))⟩)))
    repeat (go_quiet (first | (go_at_call 20; (with_reducible refine (impl_SumOf.calls kj4 _ _ l0 _ _ l1 t171 _ ?side1 ?side2 ?side3 ?side4 A9.out).mono ?_); (case side1 => exact qz7); (case side2 => exact HC0.out); (case side3 => exact qz10); (case side4 => exact HC1.out); rintro e w' ⟨rfl, ⟨nd, rfl⟩⟩; (try first | exact ⟨rfl, _, World.drewN_drewN _ _ _⟩ | exact ⟨rfl, _, Eq.trans (World.drewN_drewN _ _ _) (congrArg (World.drewN _) (Nat.add_assoc _ _ _))⟩)) | (go_at_call 43; (with_reducible refine (impl_pricesOk.calls kj4 _ _ l2 false _ ?side1 ?side2 A13.out).mono ?_); (case side1 => exact qz19); (case side2 => exact HC2.out); rintro e w' ⟨rfl, ⟨nd, rfl⟩⟩; (try first | exact ⟨rfl, _, World.drewN_drewN _ _ _⟩ | exact ⟨rfl, _, Eq.trans (World.drewN_drewN _ _ _) (congrArg (World.drewN _) (Nat.add_assoc _ _ _))⟩))); try go_wp2_with (first | (go_at_call 20; (with_reducible refine (impl_SumOf.calls kj4 _ _ l0 _ _ l1 t171 _ ?side1 ?side2 ?side3 ?side4 A9.out).mono ?_); (case side1 => exact qz7); (case side2 => exact HC0.out); (case side3 => exact qz10); (case side4 => exact HC1.out); rintro e w' ⟨rfl, ⟨nd, rfl⟩⟩; (try first | exact ⟨rfl, _, World.drewN_drewN _ _ _⟩ | exact ⟨rfl, _, Eq.trans (World.drewN_drewN _ _ _) (congrArg (World.drewN _) (Nat.add_assoc _ _ _))⟩)) | (go_at_call 43; (with_reducible refine (impl_pricesOk.calls kj4 _ _ l2 false _ ?side1 ?side2 A13.out).mono ?_); (case side1 => exact qz19); (case side2 => exact HC2.out); rintro e w' ⟨rfl, ⟨nd, rfl⟩⟩; (try first | exact ⟨rfl, _, World.drewN_drewN _ _ _⟩ | exact ⟨rfl, _, Eq.trans (World.drewN_drewN _ _ _) (congrArg (World.drewN _) (Nat.add_assoc _ _ _))⟩))))
    go_meet
    case rel => exact ⟨_, (true), qz5, H', ⟨by have := HJ4.out; first | omega | exact Nat.le_refl _⟩, by repeat (first | exact Drawn0.refl _ | apply Drawn0.step)⟩
    }
    }
    {
    rw [if_neg c12] at H
    have c12b0 := beq_eq_false_iff_ne.mpr c12
    have c12b1 := bne_iff_ne.mpr c12
    have H' := aM H
    clear H
    go_wp2_with (first | (go_at_call 20; (with_reducible refine (impl_SumOf.calls kj4 _ _ l0 _ _ l1 t171 _ ?side1 ?side2 ?side3 ?side4 A9.out).mono ?_); (case side1 => exact qz7); (case side2 => exact HC0.out); (case side3 => exact qz10); (case side4 => exact HC1.out); rintro e w' ⟨rfl, ⟨nd, rfl⟩⟩; (try first | exact ⟨rfl, _, World.drewN_drewN _ _ _⟩ | exact ⟨rfl, _, Eq.trans (World.drewN_drewN _ _ _) (congrArg (World.drewN _) (Nat.add_assoc _ _ _))⟩)))
    repeat (go_quiet (first | (go_at_call 20; (with_reducible refine (impl_SumOf.calls kj4 _ _ l0 _ _ l1 t171 _ ?side1 ?side2 ?side3 ?side4 A9.out).mono ?_); (case side1 => exact qz7); (case side2 => exact HC0.out); (case side3 => exact qz10); (case side4 => exact HC1.out); rintro e w' ⟨rfl, ⟨nd, rfl⟩⟩; (try first | exact ⟨rfl, _, World.drewN_drewN _ _ _⟩ | exact ⟨rfl, _, Eq.trans (World.drewN_drewN _ _ _) (congrArg (World.drewN _) (Nat.add_assoc _ _ _))⟩))); try go_wp2_with (first | (go_at_call 20; (with_reducible refine (impl_SumOf.calls kj4 _ _ l0 _ _ l1 t171 _ ?side1 ?side2 ?side3 ?side4 A9.out).mono ?_); (case side1 => exact qz7); (case side2 => exact HC0.out); (case side3 => exact qz10); (case side4 => exact HC1.out); rintro e w' ⟨rfl, ⟨nd, rfl⟩⟩; (try first | exact ⟨rfl, _, World.drewN_drewN _ _ _⟩ | exact ⟨rfl, _, Eq.trans (World.drewN_drewN _ _ _) (congrArg (World.drewN _) (Nat.add_assoc _ _ _))⟩))))
    go_meet
    case rel => exact ⟨_, (true), qz5, H', ⟨by have := HJ4.out; first | omega | exact Nat.le_refl _⟩, by repeat (first | exact Drawn0.refl _ | apply Drawn0.step)⟩
    }
    }
    {
    rw [if_neg c11] at H
    have c11b0 := beq_eq_false_iff_ne.mpr c11
    have c11b1 := bne_iff_ne.mpr c11
    have c11b2 : (l2.length == l0.length) = false := by first | simpa using c11 | (simp at c11 ⊢; omega)
    have H' := aM H
    clear H
    go_wp2_with (first | (go_at_call 20; (with_reducible refine (impl_SumOf.calls kj4 _ _ l0 _ _ l1 t171 _ ?side1 ?side2 ?side3 ?side4 A9.out).mono ?_); (case side1 => exact qz7); (case side2 => exact HC0.out); (case side3 => exact qz10); (case side4 => exact HC1.out); rintro e w' ⟨rfl, ⟨nd, rfl⟩⟩; (try first | exact ⟨rfl, _, World.drewN_drewN _ _ _⟩ | exact ⟨rfl, _, Eq.trans (World.drewN_drewN _ _ _) (congrArg (World.drewN _) (Nat.add_assoc _ _ _))⟩)))
    repeat (go_quiet (first | (go_at_call 20; (with_reducible refine (impl_SumOf.calls kj4 _ _ l0 _ _ l1 t171 _ ?side1 ?side2 ?side3 ?side4 A9.out).mono ?_); (case side1 => exact qz7); (case side2 => exact HC0.out); (case side3 => exact qz10); (case side4 => exact HC1.out); rintro e w' ⟨rfl, ⟨nd, rfl⟩⟩; (try first | exact ⟨rfl, _, World.drewN_drewN _ _ _⟩ | exact ⟨rfl, _, Eq.trans (World.drewN_drewN _ _ _) (congrArg (World.drewN _) (Nat.add_assoc _ _ _))⟩))); try go_wp2_with (first | (go_at_call 20; (with_reducible refine (impl_SumOf.calls kj4 _ _ l0 _ _ l1 t171 _ ?side1 ?side2 ?side3 ?side4 A9.out).mono ?_); (case side1 => exact qz7); (case side2 => exact HC0.out); (case side3 => exact qz10); (case side4 => exact HC1.out); rintro e w' ⟨rfl, ⟨nd, rfl⟩⟩; (try first | exact ⟨rfl, _, World.drewN_drewN _ _ _⟩ | exact ⟨rfl, _, Eq.trans (World.drewN_drewN _ _ _) (congrArg (World.drewN _) (Nat.add_assoc _ _ _))⟩))))
    go_meet
    case rel => exact ⟨_, (true), qz5, H', ⟨by have := HJ4.out; first | omega | exact Nat.le_refl _⟩, by repeat (first | exact Drawn0.refl _ | apply Drawn0.step)⟩
    }
    }
   case rest =>
    clear HC8
    try clear c1
    try clear p1
    try clear q1
    try clear hx1
    try clear qi1
    try clear c2
    try clear p2
    try clear c3
    try clear c4
    try clear c6
    try clear c6b0
    try clear c6b1
    try clear c7
    try clear c7b0
    try clear c7b1
    try clear c10
    try clear c10b0
    try clear c10b1
    try clear c11
    try clear c11b0
    try clear c11b1
    try clear c11b2
    try clear c12
    try clear c12b0
    try clear c12b1
    try clear c14
    try clear hx170_0
    try clear p170
    try clear q170
    obtain ⟨kq, x49_7, rfl, HA, HJ7, ⟨mc7, rfl⟩⟩ := hcut
    cases kq with
    | zero => exact absurd HA.out (by simp [impl_Proves.j1])
    | succ kj7 =>
     have H := HA.out
     clear HA
     simp only [impl_Proves.j1] at H
     by_cases c16 : x49_7 = true
     {
     subst c16
     rw [if_pos rfl] at H
     obtain rfl := Option.some.inj H
     simp only [Option.some.injEq, Prod.mk.injEq] at H
     obtain ⟨rfl⟩ := H
     go_wp2
     repeat (go_quiet (fail); try go_wp2)
     go_ret
     exact ⟨by first | rfl | (simp; done) | (simp [*]; done), by repeat (first | exact Drawn0.refl _ | apply Drawn0.step)⟩
     }
     {
     replace c16 := Bool.eq_false_iff.mpr c16
     subst c16
     rw [if_neg (show ¬ (false = true) by decide)] at H
     have H' := aM H
     clear H
     go_wp2
     repeat (go_quiet (fail); try go_wp2)
     go_loopg [52] kj7 (fun kq v52 w' => ∃ (x52_3 : Int), v52 = .int .i64 x52_3 ∧ Aside0 (impl_Proves.l0 kq l1 l2 l3 l0 (l0.length : Int) x52_3 = some r) ∧ Aside0 (kq ≤ kj7) ∧ Drawn0 w w')
     case atStart => exact ⟨(0), qz5, H', ⟨Nat.le_refl _⟩, by repeat (first | exact Drawn0.refl _ | apply Drawn0.step)⟩
     case round =>
      clear H'
      try clear c1
      try clear p1
      try clear q1
      try clear hx1
      try clear qi1
      try clear c2
      try clear p2
      try clear c3
      try clear c4
      try clear c6
      try clear c6b0
      try clear c6b1
      try clear c7
      try clear c7b0
      try clear c7b1
      try clear c10
      try clear c10b0
      try clear c10b1
      try clear c11
      try clear c11b0
      try clear c11b1
      try clear c11b2
      try clear c12
      try clear c12b0
      try clear c12b1
      try clear c14
      try clear c16
      try clear hx170_0
      try clear p170
      try clear q170
      obtain ⟨x52_3, rfl, HA, HK3, ⟨m3, rfl⟩⟩ := hrel
      cases gk with
      | zero => exact absurd HA.out (by simp [impl_Proves.l0])
      | succ k3 =>
       have H := HA.out
       clear HA
       simp only [impl_Proves.l0] at H
       by_cases c17 : x52_3 < (l0.length : Int)
       {
       rw [if_pos c17] at H
       have c17b0 := decide_eq_true c17
       clear c17
       by_cases c18 : 0 ≤ x52_3
       {
       rw [if_pos c18] at H
       have c18b0 := decide_eq_true c18
       clear c18
       by_cases c19 : x52_3 < (l0.length : Int)
       {
       rw [if_pos c19] at H
       have c19b0 := decide_eq_true c19
       clear c19
       have H' := aM H
       clear H
       have p174 : 0 ≤ (x52_3 : Int) := dt_
       have q174 : x52_3 < (l0.length : Int) := dt_
       obtain ⟨ad174, A174_0, c174_0, e174, hx174_0, hl174_0, hi174_0⟩ := at_L1 HR0.out x52_3 p174 q174
       cases e174
       have HR174_0 := aM hi174_0
       have HC174_0 := aM hl174_0
       clear hi174_0 hl174_0
       replace p174 := eq_true p174
       replace q174 := eq_true q174
       go_wp2
       repeat (go_quiet (fail); try go_wp2)
       go_loopg [59] k3 (fun kq v59 w' => ∃ (x59_4 : Int), v59 = .int .i64 x59_4 ∧ Aside0 (impl_Proves.l1 kq l1 l2 l3 x52_3 l0 (l0.length : Int) x52_3 (rd_L1 l0 x52_3) ((rd_L1 l0 x52_3).length : Int) x59_4 = some r) ∧ Aside0 (kq ≤ k3) ∧ Drawn0 w w')
       case atStart => exact ⟨(0), qz5, H', ⟨Nat.le_refl _⟩, by repeat (first | exact Drawn0.refl _ | apply Drawn0.step)⟩
       case round =>
        clear H'
        try clear c1
        try clear p1
        try clear q1
        try clear hx1
        try clear qi1
        try clear c2
        try clear p2
        try clear c3
        try clear c4
        try clear c6
        try clear c6b0
        try clear c6b1
        try clear c7
        try clear c7b0
        try clear c7b1
        try clear c10
        try clear c10b0
        try clear c10b1
        try clear c11
        try clear c11b0
        try clear c11b1
        try clear c11b2
        try clear c12
        try clear c12b0
        try clear c12b1
        try clear c14
        try clear c16
        try clear c17
        try clear c17b0
        try clear p17
        try clear q17
        try clear hx17
        try clear qi17
        try clear c18
        try clear c18b0
        try clear c19
        try clear c19b0
        try clear hx170_0
        try clear hx174_0
        try clear p170
        try clear p174
        try clear q170
        try clear q174
        obtain ⟨x59_4, rfl, HA, HK4, ⟨m4, rfl⟩⟩ := hrel
        cases gk with
        | zero => exact absurd HA.out (by simp [impl_Proves.l1])
        | succ k4 =>
         have H := HA.out
         clear HA
         simp only [impl_Proves.l1] at H
         by_cases c20 : x59_4 < ((rd_L1 l0 x52_3).length : Int)
         {
         rw [if_pos c20] at H
         have c20b0 := decide_eq_true c20
         clear c20
         by_cases c21 : 0 ≤ x59_4
         {
         rw [if_pos c21] at H
         have c21b0 := decide_eq_true c21
         clear c21
         by_cases c22 : x59_4 < ((rd_L1 l0 x52_3).length : Int)
         {
         rw [if_pos c22] at H
         have c22b0 := decide_eq_true c22
         clear c22
         by_cases c23 : 0 ≤ x52_3
         {
         rw [if_pos c23] at H
         have c23b0 := decide_eq_true c23
         clear c23
         by_cases c24 : x52_3 < (l2.length : Int)
         {
         rw [if_pos c24] at H
         have c24b0 := decide_eq_true c24
         clear c24
         by_cases c25 : x59_4 < (l3.length : Int)
         {
         rw [if_pos c25] at H
         have c25b0 := decide_eq_true c25
         clear c25
         by_cases c26 : (wrap64 ((rd l2 x52_3) + (rd l3 x59_4))) > (rd (rd_L1 l0 x52_3) x59_4)
         {
         rw [if_pos c26] at H
         have c26b0 := decide_eq_true c26
         clear c26
         obtain rfl := Option.some.inj H
         simp only [Option.some.injEq, Prod.mk.injEq] at H
         obtain ⟨rfl⟩ := H
         have p175 : 0 ≤ (x59_4 : Int) := dt_
         have q175 : x59_4 < ((rd_L1 l0 x52_3).length : Int) := dt_
         obtain ⟨ad175, e175, hx175_0⟩ := Kd.at_int HR174_0.out x59_4 p175 q175
         cases e175
         replace p175 := eq_true p175
         replace q175 := eq_true q175
         have p176 : 0 ≤ (x52_3 : Int) := dt_
         have q176 : x52_3 < (l2.length : Int) := dt_
         obtain ⟨ad176, e176, hx176_0⟩ := Kd.at_int HR2.out x52_3 p176 q176
         cases e176
         replace p176 := eq_true p176
         replace q176 := eq_true q176
         have p177 : 0 ≤ (x59_4 : Int) := dt_
         have q177 : x59_4 < (l3.length : Int) := dt_
         obtain ⟨ad177, e177, hx177_0⟩ := Kd.at_int HR3.out x59_4 p177 q177
         cases e177
         replace p177 := eq_true p177
         replace q177 := eq_true q177
         go_wp2
         repeat (go_quiet (fail); try go_wp2)
         go_ret
         exact ⟨by first | rfl | (simp; done) | (simp [*]; done), by repeat (first | exact Drawn0.refl _ | apply Drawn0.step)⟩
         }
         {
         rw [if_neg c26] at H
         have c26b0 := decide_eq_false c26
         clear c26
         by_cases c27 : x52_3 < (l1.length : Int)
         {
         rw [if_pos c27] at H
         have c27b0 := decide_eq_true c27
         clear c27
         by_cases c28 : (rd l1 x52_3) = x59_4
         {
         rw [if_pos c28] at H
         have c28b0 := beq_iff_eq.mpr c28
         have c28b1 := bne_eq_false_iff_eq.mpr c28
         clear c28
         by_cases c29 : (wrap64 ((rd l2 x52_3) + (rd l3 x59_4))) = (rd (rd_L1 l0 x52_3) x59_4)
         {
         rw [if_pos c29] at H
         have c29b0 := beq_iff_eq.mpr c29
         have c29b1 := bne_eq_false_iff_eq.mpr c29
         clear c29
         have H' := aM H
         clear H
         have p175 : 0 ≤ (x59_4 : Int) := dt_
         have q175 : x59_4 < ((rd_L1 l0 x52_3).length : Int) := dt_
         obtain ⟨ad175, e175, hx175_0⟩ := Kd.at_int HR174_0.out x59_4 p175 q175
         cases e175
         replace p175 := eq_true p175
         replace q175 := eq_true q175
         have p176 : 0 ≤ (x52_3 : Int) := dt_
         have q176 : x52_3 < (l2.length : Int) := dt_
         obtain ⟨ad176, e176, hx176_0⟩ := Kd.at_int HR2.out x52_3 p176 q176
         cases e176
         replace p176 := eq_true p176
         replace q176 := eq_true q176
         have p177 : 0 ≤ (x59_4 : Int) := dt_
         have q177 : x59_4 < (l3.length : Int) := dt_
         obtain ⟨ad177, e177, hx177_0⟩ := Kd.at_int HR3.out x59_4 p177 q177
         cases e177
         replace p177 := eq_true p177
         replace q177 := eq_true q177
         have p178 : 0 ≤ (x52_3 : Int) := dt_
         have q178 : x52_3 < (l1.length : Int) := dt_
         obtain ⟨ad178, e178, hx178_0⟩ := Kd.at_int HR1.out x52_3 p178 q178
         cases e178
         replace p178 := eq_true p178
         replace q178 := eq_true q178
         have p179 : 0 ≤ (x52_3 : Int) := dt_
         have q179 : x52_3 < (l2.length : Int) := dt_
         obtain ⟨ad179, e179, hx179_0⟩ := Kd.at_int HR2.out x52_3 p179 q179
         obtain rfl : ad176 = ad179 := (by injection e179)
         replace p179 := eq_true p179
         replace q179 := eq_true q179
         have p180 : 0 ≤ (x59_4 : Int) := dt_
         have q180 : x59_4 < (l3.length : Int) := dt_
         obtain ⟨ad180, e180, hx180_0⟩ := Kd.at_int HR3.out x59_4 p180 q180
         obtain rfl : ad177 = ad180 := (by injection e180)
         replace p180 := eq_true p180
         replace q180 := eq_true q180
         go_wp2
         repeat (go_quiet (fail); try go_wp2)
         go_roundg k4
         case measure => have := HJ4.out; have := HJ7.out; have := HK3.out; have := HK4.out; omega
         case rel => exact ⟨(wrap64 (x59_4 + 1)), qz5, H', ⟨by have := HJ4.out; have := HJ7.out; have := HK3.out; have := HK4.out; omega⟩, by repeat (first | exact Drawn0.refl _ | apply Drawn0.step)⟩
         }
         {
         rw [if_neg c29] at H
         have c29b0 := beq_eq_false_iff_ne.mpr c29
         have c29b1 := bne_iff_ne.mpr c29
         obtain rfl := Option.some.inj H
         simp only [Option.some.injEq, Prod.mk.injEq] at H
         obtain ⟨rfl⟩ := H
         have p175 : 0 ≤ (x59_4 : Int) := dt_
         have q175 : x59_4 < ((rd_L1 l0 x52_3).length : Int) := dt_
         obtain ⟨ad175, e175, hx175_0⟩ := Kd.at_int HR174_0.out x59_4 p175 q175
         cases e175
         replace p175 := eq_true p175
         replace q175 := eq_true q175
         have p176 : 0 ≤ (x52_3 : Int) := dt_
         have q176 : x52_3 < (l2.length : Int) := dt_
         obtain ⟨ad176, e176, hx176_0⟩ := Kd.at_int HR2.out x52_3 p176 q176
         cases e176
         replace p176 := eq_true p176
         replace q176 := eq_true q176
         have p177 : 0 ≤ (x59_4 : Int) := dt_
         have q177 : x59_4 < (l3.length : Int) := dt_
         obtain ⟨ad177, e177, hx177_0⟩ := Kd.at_int HR3.out x59_4 p177 q177
         cases e177
         replace p177 := eq_true p177
         replace q177 := eq_true q177
         have p178 : 0 ≤ (x52_3 : Int) := dt_
         have q178 : x52_3 < (l1.length : Int) := dt_
         obtain ⟨ad178, e178, hx178_0⟩ := Kd.at_int HR1.out x52_3 p178 q178
         cases e178
         replace p178 := eq_true p178
         replace q178 := eq_true q178
         have p179 : 0 ≤ (x52_3 : Int) := dt_
         have q179 : x52_3 < (l2.length : Int) := dt_
         obtain ⟨ad179, e179, hx179_0⟩ := Kd.at_int HR2.out x52_3 p179 q179
         obtain rfl : ad176 = ad179 := (by injection e179)
         replace p179 := eq_true p179
         replace q179 := eq_true q179
         have p180 : 0 ≤ (x59_4 : Int) := dt_
         have q180 : x59_4 < (l3.length : Int) := dt_
         obtain ⟨ad180, e180, hx180_0⟩ := Kd.at_int HR3.out x59_4 p180 q180
         obtain rfl : ad177 = ad180 := (by injection e180)
         replace p180 := eq_true p180
         replace q180 := eq_true q180
         go_wp2
         repeat (go_quiet (fail); try go_wp2)
         go_ret
         exact ⟨by first | rfl | (simp; done) | (simp [*]; done), by repeat (first | exact Drawn0.refl _ | apply Drawn0.step)⟩
         }
         }
         {
         rw [if_neg c28] at H
         have c28b0 := beq_eq_false_iff_ne.mpr c28
         have c28b1 := bne_iff_ne.mpr c28
         have H' := aM H
         clear H
         have p175 : 0 ≤ (x59_4 : Int) := dt_
         have q175 : x59_4 < ((rd_L1 l0 x52_3).length : Int) := dt_
         obtain ⟨ad175, e175, hx175_0⟩ := Kd.at_int HR174_0.out x59_4 p175 q175
         cases e175
         replace p175 := eq_true p175
         replace q175 := eq_true q175
         have p176 : 0 ≤ (x52_3 : Int) := dt_
         have q176 : x52_3 < (l2.length : Int) := dt_
         obtain ⟨ad176, e176, hx176_0⟩ := Kd.at_int HR2.out x52_3 p176 q176
         cases e176
         replace p176 := eq_true p176
         replace q176 := eq_true q176
         have p177 : 0 ≤ (x59_4 : Int) := dt_
         have q177 : x59_4 < (l3.length : Int) := dt_
         obtain ⟨ad177, e177, hx177_0⟩ := Kd.at_int HR3.out x59_4 p177 q177
         cases e177
         replace p177 := eq_true p177
         replace q177 := eq_true q177
         have p178 : 0 ≤ (x52_3 : Int) := dt_
         have q178 : x52_3 < (l1.length : Int) := dt_
         obtain ⟨ad178, e178, hx178_0⟩ := Kd.at_int HR1.out x52_3 p178 q178
         cases e178
         replace p178 := eq_true p178
         replace q178 := eq_true q178
         go_wp2
         repeat (go_quiet (fail); try go_wp2)
         go_roundg k4
         case measure => have := HJ4.out; have := HJ7.out; have := HK3.out; have := HK4.out; omega
         case rel => exact ⟨(wrap64 (x59_4 + 1)), qz5, H', ⟨by have := HJ4.out; have := HJ7.out; have := HK3.out; have := HK4.out; omega⟩, by repeat (first | exact Drawn0.refl _ | apply Drawn0.step)⟩
         }
         }
         {
         exact an_ c27 H
         }
         }
         }
         {
         exact an_ c25 H
         }
         }
         {
         exact an_ c24 H
         }
         }
         {
         exact an_ c23 H
         }
         }
         {
         exact an_ c22 H
         }
         }
         {
         exact an_ c21 H
         }
         }
         {
         rw [if_neg c20] at H
         have c20b0 := decide_eq_false c20
         clear c20
         have H' := aM H
         clear H
         go_wp2
         repeat (go_quiet (fail); try go_wp2)
         go_roundg k4
         case measure => have := HJ4.out; have := HJ7.out; have := HK3.out; have := HK4.out; omega
         case rel => exact ⟨(wrap64 (x52_3 + 1)), qz5, H', ⟨by have := HJ4.out; have := HJ7.out; have := HK3.out; have := HK4.out; omega⟩, by repeat (first | exact Drawn0.refl _ | apply Drawn0.step)⟩
         }
       }
       {
       exact an_ c19 H
       }
       }
       {
       exact an_ c18 H
       }
       }
       {
       rw [if_neg c17] at H
       have c17b0 := decide_eq_false c17
       clear c17
       have H' := aM H
       clear H
       go_wp2
       repeat (go_quiet (fail); try go_wp2)
       go_loopg [100] k3 (fun kq v100 w' => ∃ (x100_4 : Int), v100 = .int .i64 x100_4 ∧ Aside0 (impl_Proves.l2 kq l1 l3 (l3.length : Int) x100_4 = some r) ∧ Aside0 (kq ≤ k3) ∧ Drawn0 w w')
       case atStart => exact ⟨(0), qz5, H', ⟨Nat.le_refl _⟩, by repeat (first | exact Drawn0.refl _ | apply Drawn0.step)⟩
       case round =>
        clear H'
        try clear c1
        try clear p1
        try clear q1
        try clear hx1
        try clear qi1
        try clear c2
        try clear p2
        try clear c3
        try clear c4
        try clear c6
        try clear c6b0
        try clear c6b1
        try clear p6
        try clear c7
        try clear c7b0
        try clear c7b1
        try clear c10
        try clear c10b0
        try clear c10b1
        try clear c11
        try clear c11b0
        try clear c11b1
        try clear c11b2
        try clear c12
        try clear c12b0
        try clear c12b1
        try clear c14
        try clear c16
        try clear c17
        try clear c17b0
        try clear p17
        try clear q17
        try clear hx17
        try clear qi17
        try clear c18
        try clear c18b0
        try clear p18
        try clear q18
        try clear hx18
        try clear c19
        try clear c19b0
        try clear c20
        try clear c20b0
        try clear c21
        try clear c21b0
        try clear c22
        try clear c22b0
        try clear c23
        try clear c23b0
        try clear c24
        try clear c24b0
        try clear c25
        try clear c25b0
        try clear c26
        try clear c26b0
        try clear c27
        try clear c27b0
        try clear c28
        try clear c28b0
        try clear c28b1
        try clear c29
        try clear c29b0
        try clear c29b1
        try clear hx170_0
        try clear hx174_0
        try clear hx175_0
        try clear hx176_0
        try clear hx177_0
        try clear hx178_0
        try clear hx179_0
        try clear hx180_0
        try clear p170
        try clear p174
        try clear p175
        try clear p176
        try clear p177
        try clear p178
        try clear p179
        try clear p180
        try clear q170
        try clear q174
        try clear q175
        try clear q176
        try clear q177
        try clear q178
        try clear q179
        try clear q180
        obtain ⟨x100_4, rfl, HA, HK4, ⟨m4, rfl⟩⟩ := hrel
        cases gk with
        | zero => exact absurd HA.out (by simp [impl_Proves.l2])
        | succ k4 =>
         have H := HA.out
         clear HA
         simp only [impl_Proves.l2] at H
         by_cases c30 : x100_4 < (l3.length : Int)
         {
         rw [if_pos c30] at H
         have c30b0 := decide_eq_true c30
         clear c30
         by_cases c31 : 0 ≤ x100_4
         {
         rw [if_pos c31] at H
         have c31b0 := decide_eq_true c31
         clear c31
         by_cases c32 : x100_4 < (l3.length : Int)
         {
         rw [if_pos c32] at H
         have c32b0 := decide_eq_true c32
         clear c32
         by_cases c33 : (rd l3 x100_4) > 0
         {
         rw [if_pos c33] at H
         have c33b0 := decide_eq_true c33
         clear c33
         obtain rfl := Option.some.inj H
         simp only [Option.some.injEq, Prod.mk.injEq] at H
         obtain ⟨rfl⟩ := H
         have p181 : 0 ≤ (x100_4 : Int) := dt_
         have q181 : x100_4 < (l3.length : Int) := dt_
         obtain ⟨ad181, e181, hx181_0⟩ := Kd.at_int HR3.out x100_4 p181 q181
         cases e181
         replace p181 := eq_true p181
         replace q181 := eq_true q181
         go_wp2
         repeat (go_quiet (fail); try go_wp2)
         go_ret
         exact ⟨by first | rfl | (simp; done) | (simp [*]; done), by repeat (first | exact Drawn0.refl _ | apply Drawn0.step)⟩
         }
         {
         rw [if_neg c33] at H
         have c33b0 := decide_eq_false c33
         clear c33
         by_cases c34 : (rd l3 x100_4) = 0
         {
         rw [if_pos c34] at H
         have c34b0 := beq_iff_eq.mpr c34
         have c34b1 := bne_eq_false_iff_eq.mpr c34
         clear c34
         have H' := aM H
         clear H
         have p181 : 0 ≤ (x100_4 : Int) := dt_
         have q181 : x100_4 < (l3.length : Int) := dt_
         obtain ⟨ad181, e181, hx181_0⟩ := Kd.at_int HR3.out x100_4 p181 q181
         cases e181
         replace p181 := eq_true p181
         replace q181 := eq_true q181
         go_wp2
         repeat (go_quiet (fail); try go_wp2)
         go_roundg k4
         case measure => have := HJ4.out; have := HJ7.out; have := HK3.out; have := HK4.out; omega
         case rel => exact ⟨(wrap64 (x100_4 + 1)), qz5, H', ⟨by have := HJ4.out; have := HJ7.out; have := HK3.out; have := HK4.out; omega⟩, by repeat (first | exact Drawn0.refl _ | apply Drawn0.step)⟩
         }
         {
         rw [if_neg c34] at H
         have c34b0 := beq_eq_false_iff_ne.mpr c34
         have c34b1 := bne_iff_ne.mpr c34
         replace H := Option.bind_eq_some_iff.mp H
         obtain ⟨t182, A350, H⟩ := H
         replace H : (if t182 = true then (impl_Proves.l2 k4 l1 l3 (l3.length : Int) (wrap64 (x100_4 + 1))) else (some false)) = some r := H
         have A35 := aM A350
         clear A350
         by_cases c36 : t182 = true
         {
         subst c36
         rw [if_pos rfl] at H
         have H' := aM H
         clear H
         have p181 : 0 ≤ (x100_4 : Int) := dt_
         have q181 : x100_4 < (l3.length : Int) := dt_
         obtain ⟨ad181, e181, hx181_0⟩ := Kd.at_int HR3.out x100_4 p181 q181
         cases e181
         replace p181 := eq_true p181
         replace q181 := eq_true q181
         go_wp2_with (first | (go_at_call 44; (with_reducible refine (impl_hasInt.calls k4 _ _ l1 x100_4 true _ ?side1 ?side2 A35.out).mono ?_); (case side1 => exact qz10); (case side2 => exact HC1.out); rintro e w' ⟨rfl, ⟨nd, rfl⟩⟩; (try first | exact ⟨rfl, _, World.drewN_drewN _ _ _⟩ | exact ⟨rfl, _, Eq.trans (World.drewN_drewN _ _ _) (congrArg (World.drewN _) (Nat.add_assoc _ _ _))⟩)))
         repeat (go_quiet (first | (go_at_call 44; (with_reducible refine (impl_hasInt.calls k4 _ _ l1 x100_4 true _ ?side1 ?side2 A35.out).mono ?_); (case side1 => exact qz10); (case side2 => exact HC1.out); rintro e w' ⟨rfl, ⟨nd, rfl⟩⟩; (try first | exact ⟨rfl, _, World.drewN_drewN _ _ _⟩ | exact ⟨rfl, _, Eq.trans (World.drewN_drewN _ _ _) (congrArg (World.drewN _) (Nat.add_assoc _ _ _))⟩))); try go_wp2_with (first | (go_at_call 44; (with_reducible refine (impl_hasInt.calls k4 _ _ l1 x100_4 true _ ?side1 ?side2 A35.out).mono ?_); (case side1 => exact qz10); (case side2 => exact HC1.out); rintro e w' ⟨rfl, ⟨nd, rfl⟩⟩; (try first | exact ⟨rfl, _, World.drewN_drewN _ _ _⟩ | exact ⟨rfl, _, Eq.trans (World.drewN_drewN _ _ _) (congrArg (World.drewN _) (Nat.add_assoc _ _ _))⟩))))
         go_roundg k4
         case measure => have := HJ4.out; have := HJ7.out; have := HK3.out; have := HK4.out; omega
         case rel => exact ⟨(wrap64 (x100_4 + 1)), qz5, H', ⟨by have := HJ4.out; have := HJ7.out; have := HK3.out; have := HK4.out; omega⟩, by repeat (first | exact Drawn0.refl _ | apply Drawn0.step)⟩
         }
         {
         replace c36 := Bool.eq_false_iff.mpr c36
         subst c36
         rw [if_neg (show ¬ (false = true) by decide)] at H
         obtain rfl := Option.some.inj H
         simp only [Option.some.injEq, Prod.mk.injEq] at H
         obtain ⟨rfl⟩ := H
         have p181 : 0 ≤ (x100_4 : Int) := dt_
         have q181 : x100_4 < (l3.length : Int) := dt_
         obtain ⟨ad181, e181, hx181_0⟩ := Kd.at_int HR3.out x100_4 p181 q181
         cases e181
         replace p181 := eq_true p181
         replace q181 := eq_true q181
         go_wp2_with (first | (go_at_call 44; (with_reducible refine (impl_hasInt.calls k4 _ _ l1 x100_4 false _ ?side1 ?side2 A35.out).mono ?_); (case side1 => exact qz10); (case side2 => exact HC1.out); rintro e w' ⟨rfl, ⟨nd, rfl⟩⟩; (try first | exact ⟨rfl, _, World.drewN_drewN _ _ _⟩ | exact ⟨rfl, _, Eq.trans (World.drewN_drewN _ _ _) (congrArg (World.drewN _) (Nat.add_assoc _ _ _))⟩)))
         repeat (go_quiet (first | (go_at_call 44; (with_reducible refine (impl_hasInt.calls k4 _ _ l1 x100_4 false _ ?side1 ?side2 A35.out).mono ?_); (case side1 => exact qz10); (case side2 => exact HC1.out); rintro e w' ⟨rfl, ⟨nd, rfl⟩⟩; (try first | exact ⟨rfl, _, World.drewN_drewN _ _ _⟩ | exact ⟨rfl, _, Eq.trans (World.drewN_drewN _ _ _) (congrArg (World.drewN _) (Nat.add_assoc _ _ _))⟩))); try go_wp2_with (first | (go_at_call 44; (with_reducible refine (impl_hasInt.calls k4 _ _ l1 x100_4 false _ ?side1 ?side2 A35.out).mono ?_); (case side1 => exact qz10); (case side2 => exact HC1.out); rintro e w' ⟨rfl, ⟨nd, rfl⟩⟩; (try first | exact ⟨rfl, _, World.drewN_drewN _ _ _⟩ | exact ⟨rfl, _, Eq.trans (World.drewN_drewN _ _ _) (congrArg (World.drewN _) (Nat.add_assoc _ _ _))⟩))))
         go_ret
         exact ⟨by first | rfl | (simp; done) | (simp [*]; done), by repeat (first | exact Drawn0.refl _ | apply Drawn0.step)⟩
         }
         }
         }
         }
         {
         exact an_ c32 H
         }
         }
         {
         exact an_ c31 H
         }
         }
         {
         rw [if_neg c30] at H
         have c30b0 := decide_eq_false c30
         clear c30
         obtain rfl := Option.some.inj H
         simp only [Option.some.injEq, Prod.mk.injEq] at H
         obtain ⟨rfl⟩ := H
         go_wp2
         repeat (go_quiet (fail); try go_wp2)
         go_ret
         exact ⟨by first | rfl | (simp; done) | (simp [*]; done), by repeat (first | exact Drawn0.refl _ | apply Drawn0.step)⟩

         }
       }
     }
end Go.Proofs.Ytbebfhlejnidkaa.PFnProved
