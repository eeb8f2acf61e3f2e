-- Made by a program of this session out of the translation. Lean checks it.
import Derived.Test.YtbebfhlejnidkaaPFnMatchedx8
namespace Go.Proofs.Ytbebfhlejnidkaa.PFnMatched
open Go.RowKit Go.Proofs.YtbebfhlejnidkaaW.PrintWords Go.Proofs.YtbebfhlejnidkaaW.PrintLast Go.Proofs.YtbebfhlejnidkaaW.PrintMore
attribute [local go_sem] max2_int min2_int max_two min_two max_three min_three max_four min_four   -- for this text's walks alone
set_option linter.unusedVariables false
set_option linter.unusedSimpArgs false

/-! ### impl_Proves: function 21 -/
mutual
def impl_Proves.j0 : Nat → List (List Int) → List Int → List Int → List Int → Int → Option (Bool)
 | 0, _, _, _, _, _ => none
 | k + 1, x0, x1, x2, x3, x9 => (impl_SumOf.f k x0 x1).bind fun t304 => (if t304 < 0 then (impl_Proves.j1 k x0 x1 x2 x3 true) else (if (x2.length : Int) = (x0.length : Int) then (if (x3.length : Int) = x9 then ((impl_pricesOk.f k x2).bind fun t305 => (if t305 = true then ((impl_pricesOk.f k x3).bind fun t306 => (impl_Proves.j1 k x0 x1 x2 x3 (!t306))) else (impl_Proves.j1 k x0 x1 x2 x3 true))) else (impl_Proves.j1 k x0 x1 x2 x3 true)) else (impl_Proves.j1 k x0 x1 x2 x3 true)))
def impl_Proves.j1 : Nat → List (List Int) → List Int → List Int → List Int → Bool → Option (Bool)
 | 0, _, _, _, _, _ => none
 | k + 1, x0, x1, x2, x3, x49 => if x49 = true then (some false) else (impl_Proves.l0 k x1 x2 x3 x0 (x0.length : Int) 0)
def impl_Proves.l0 : Nat → List Int → List Int → List Int → List (List Int) → Int → Int → Option (Bool)
 | 0, _, _, _, _, _, _ => none
 | k + 1, x1, x2, x3, x50, x51, x52 => if x52 < x51 then (if 0 ≤ x52 then (if x52 < (x50.length : Int) then (impl_Proves.l1 k x1 x2 x3 x52 x50 x51 x52 (rd_L1 x50 x52) ((rd_L1 x50 x52).length : Int) 0) else (none)) else (none)) else (impl_Proves.l2 k x1 x3 (x3.length : Int) 0)
def impl_Proves.l1 : Nat → List Int → List Int → List Int → Int → List (List Int) → Int → Int → List Int → Int → Int → Option (Bool)
 | 0, _, _, _, _, _, _, _, _, _, _ => none
 | k + 1, x1, x2, x3, x10, x50, x51, x52, x57, x58, x59 => if x59 < x58 then (if 0 ≤ x59 then (if x59 < (x57.length : Int) then (if 0 ≤ x10 then (if x10 < (x2.length : Int) then (if x59 < (x3.length : Int) then (if (wrap64 ((rd x2 x10) + (rd x3 x59))) > (rd x57 x59) then (some false) else (if x10 < (x1.length : Int) then (if (rd x1 x10) = x59 then (if (wrap64 ((rd x2 x10) + (rd x3 x59))) = (rd x57 x59) then (impl_Proves.l1 k x1 x2 x3 x10 x50 x51 x52 x57 x58 (wrap64 (x59 + 1))) else (some false)) else (impl_Proves.l1 k x1 x2 x3 x10 x50 x51 x52 x57 x58 (wrap64 (x59 + 1)))) else (none))) else (none)) else (none)) else (none)) else (none)) else (none)) else (impl_Proves.l0 k x1 x2 x3 x50 x51 (wrap64 (x52 + 1)))
def impl_Proves.l2 : Nat → List Int → List Int → Int → Int → Option (Bool)
 | 0, _, _, _, _ => none
 | k + 1, x1, x98, x99, x100 => if x100 < x99 then (if 0 ≤ x100 then (if x100 < (x98.length : Int) then (if (rd x98 x100) > 0 then (some false) else (if (rd x98 x100) = 0 then (impl_Proves.l2 k x1 x98 x99 (wrap64 (x100 + 1))) else ((impl_hasInt.f k x1 x100).bind fun t315 => (if t315 = true then (impl_Proves.l2 k x1 x98 x99 (wrap64 (x100 + 1))) else (some false))))) else (none)) else (none)) else (some true)
end
def impl_Proves.f (k : Nat) (l0 : List (List Int)) (l1 : List Int) (l2 : List Int) (l3 : List Int) : Option (Bool) := if (l0.length : Int) > 0 then (if 0 < (l0.length : Int) then (impl_Proves.j0 k l0 l1 l2 l3 ((rd_L1 l0 0).length : Int)) else (none)) else (impl_Proves.j0 k l0 l1 l2 l3 0)
theorem impl_Proves.mono_l : ∀ k, (∀ y0 y1 y2 y3 y4, LeO (impl_Proves.j0 k y0 y1 y2 y3 y4) (impl_Proves.j0 (k + 1) y0 y1 y2 y3 y4)) ∧ (∀ y0 y1 y2 y3 y4, LeO (impl_Proves.j1 k y0 y1 y2 y3 y4) (impl_Proves.j1 (k + 1) y0 y1 y2 y3 y4)) ∧ (∀ y0 y1 y2 y3 y4 y5, LeO (impl_Proves.l0 k y0 y1 y2 y3 y4 y5) (impl_Proves.l0 (k + 1) y0 y1 y2 y3 y4 y5)) ∧ (∀ y0 y1 y2 y3 y4 y5 y6 y7 y8 y9, LeO (impl_Proves.l1 k y0 y1 y2 y3 y4 y5 y6 y7 y8 y9) (impl_Proves.l1 (k + 1) y0 y1 y2 y3 y4 y5 y6 y7 y8 y9)) ∧ (∀ y0 y1 y2 y3, LeO (impl_Proves.l2 k y0 y1 y2 y3) (impl_Proves.l2 (k + 1) y0 y1 y2 y3))
 | 0 => ⟨fun _ _ _ _ _ r h => by simp [impl_Proves.j0] at h, fun _ _ _ _ _ r h => by simp [impl_Proves.j1] at h, fun _ _ _ _ _ _ r h => by simp [impl_Proves.l0] at h, fun _ _ _ _ _ _ _ _ _ _ r h => by simp [impl_Proves.l1] at h, fun _ _ _ _ r h => by simp [impl_Proves.l2] at h⟩
 | k + 1 => by
  obtain ⟨ih0, ih1, ih2, ih3, ih4⟩ := impl_Proves.mono_l k
  refine ⟨?_, ?_, ?_, ?_, ?_⟩
  {
  intro y0 y1 y2 y3 y4
  unfold impl_Proves.j0
  have j0 := @impl_SumOf.mono
  have j1 := @impl_hasInt.mono
  have j2 := @impl_pricesOk.mono
  exact qL
  }
  {
  intro y0 y1 y2 y3 y4
  unfold impl_Proves.j1
  have j0 := @impl_SumOf.mono
  have j1 := @impl_hasInt.mono
  have j2 := @impl_pricesOk.mono
  exact qL
  }
  {
  intro y0 y1 y2 y3 y4 y5
  unfold impl_Proves.l0
  have j0 := @impl_SumOf.mono
  have j1 := @impl_hasInt.mono
  have j2 := @impl_pricesOk.mono
  exact qL
  }
  {
  intro y0 y1 y2 y3 y4 y5 y6 y7 y8 y9
  unfold impl_Proves.l1
  have j0 := @impl_SumOf.mono
  have j1 := @impl_hasInt.mono
  have j2 := @impl_pricesOk.mono
  exact qL
  }
  {
  intro y0 y1 y2 y3
  unfold impl_Proves.l2
  have j0 := @impl_SumOf.mono
  have j1 := @impl_hasInt.mono
  have j2 := @impl_pricesOk.mono
  exact qL
  }
theorem impl_Proves.mono : ∀ a0 a1 a2 a3 k, LeO (impl_Proves.f k a0 a1 a2 a3) (impl_Proves.f (k + 1) a0 a1 a2 a3) := by
 intro a0 a1 a2 a3 k
 obtain ⟨ih0, ih1, ih2, ih3, ih4⟩ := impl_Proves.mono_l k
 unfold impl_Proves.f
 have j0 := @impl_SumOf.mono
 have j1 := @impl_hasInt.mono
 have j2 := @impl_pricesOk.mono
 exact qL
set_option maxHeartbeats 8000000 in
set_option maxRecDepth 100000 in
theorem impl_Proves.calls (k : Nat) (A0 : Option Addr) (c0 : Nat) (l0 : List (List Int)) (A1 : Option Addr) (c1 : Nat) (l1 : List Int) (A2 : Option Addr) (c2 : Nat) (l2 : List Int) (A3 : Option Addr) (c3 : Nat) (l3 : List Int) (r : Bool) (w : World) (hr0 : Kd.C (Kd.slice 3 (Kd.int .i64)) w A0 l0.length l0) (hc0 : l0.length ≤ c0) (hr1 : Kd.C (Kd.int .i64) w A1 l1.length l1) (hc1 : l1.length ≤ c1) (hr2 : Kd.C (Kd.int .i64) w A2 l2.length l2) (hc2 : l2.length ≤ c2) (hr3 : Kd.C (Kd.int .i64) w A3 l3.length l3) (hc3 : l3.length ≤ c3) (h : impl_Proves.f k l0 l1 l2 l3 = some r) :
  Calls Try.prog 21 #[.slice A0 l0.length c0, .slice A1 l1.length c1, .slice A2 l2.length c2, .slice A3 l3.length c3] w fun e w' => e = .returned (.bool r) ∧ Drawn0 w w' := by
 have HR0 := aM hr0
 have HC0 := aM hc0
 clear hr0 hc0
 have HR1 := aM hr1
 have HC1 := aM hc1
 clear hr1 hc1
 have HR2 := aM hr2
 have HC2 := aM hc2
 clear hr2 hc2
 have HR3 := aM hr3
 have HC3 := aM hc3
 clear hr3 hc3
 unfold impl_Proves.f at h
 have H := h
 clear h
 have HC5 := aM H
 clear H
 go_enter Try.func21, Try.ntmps21
 go_upto_if 18 with (fail)
 repeat (go_quiet (fail); go_upto_if 18 with (fail))
 go_cut [9] (fun v9 wc => ∃ (kq : Nat) (x9_4 : Int), v9 = .int .i64 x9_4 ∧ Aside0 (impl_Proves.j0 kq l0 l1 l2 l3 x9_4 = some r) ∧ Aside0 (kq ≤ k) ∧ Drawn0 w wc)
 case first =>
  have H := HC5.out
  clear HC5
  replace H := iS_ H
  rcases H with ⟨c6, H⟩ | ⟨c6, H⟩
  {
  have c6b0 := decide_eq_true c6
  have c6b1 : decide (0 < l0.length) = true := decide_eq_true (by omega)
  clear c6
  (first | rw [c6b0] | (simp only [i64_w, i32_w]; rw [c6b0]) | rw [@decide_eq_true _ _ (of_decide_eq_true c6b0)] | rw [@decide_eq_true _ _ (of_decide_eq_true c6b1)] | skip)
  replace H := iN_ H
  obtain ⟨c7, H⟩ := H
  have c7b0 := decide_eq_true c7
  have c7b1 : decide (0 < l0.length) = true := decide_eq_true (by omega)
  clear c7
  have H' := aM H
  clear H
  have p303 : 0 ≤ (0 : Int) := (by omega)
  have q303 : 0 < (l0.length : Int) := dt_
  obtain ⟨ad303, A303_0, c303_0, e303, hx303_0, hl303_0, hi303_0⟩ := at_L1 HR0.out 0 p303 q303
  cases e303
  have qi303 : (0 < l0.length) = True := eq_true (by omega)
  (try rw [show ((0 : Int)).toNat = 0 from rfl] at hx303_0)
  (try rw [Addr.add_zero'] at hx303_0)
  have HR303_0 := aM hi303_0
  have HC303_0 := aM hl303_0
  clear hi303_0 hl303_0
  replace p303 := eq_true p303
  replace q303 := eq_true q303
  go_wp2
  repeat (go_quiet (fail); try go_wp2)
  go_meet
  case rel => exact ⟨_, (((rd_L1 l0 0).length : Int)), qz3, H', ⟨by first | omega | exact Nat.le_refl _⟩, by repeat (first | exact Drawn0.refl _ | apply Drawn0.step)⟩
  }
  {
  have c6b0 := decide_eq_false c6
  have c6b1 : decide (0 < l0.length) = false := decide_eq_false (by omega)
  clear c6
  (first | rw [c6b0] | (simp only [i64_w, i32_w]; rw [c6b0]) | rw [@decide_eq_false _ _ (of_decide_eq_false c6b0)] | rw [@decide_eq_false _ _ (of_decide_eq_false c6b1)] | skip)
  have H' := aM H
  clear H
  go_wp2
  repeat (go_quiet (fail); try go_wp2)
  go_meet
  case rel => exact ⟨_, (0), qz3, H', ⟨by first | omega | exact Nat.le_refl _⟩, by repeat (first | exact Drawn0.refl _ | apply Drawn0.step)⟩
  }
 case rest =>
 clear HC5
 try clear c1
 try clear c2
 try clear c3
 try clear qi3
 obtain ⟨kq, x9_4, rfl, HA, HJ4, ⟨mc4, rfl⟩⟩ := hcut
 cases kq with
 | zero => exact absurd HA.out (by simp [impl_Proves.j0])
 | succ kj4 =>
 have H := HA.out
 clear HA
 simp only [impl_Proves.j0] at H
 have HC8 := aM H
 clear H
 go_upto_region 4 with (fail)
 repeat (go_quiet (fail); go_upto_region 4 with (fail))
 go_cut [49] (fun v49 wc => ∃ (kq : Nat) (x49_7 : Bool), v49 = .bool x49_7 ∧ Aside0 (impl_Proves.j1 kq l0 l1 l2 l3 x49_7 = some r) ∧ Aside0 (kq ≤ kj4) ∧ Drawn0 w wc)
 case first =>
  have H := HC8.out
  clear HC8
  replace H := Option.bind_eq_some_iff.mp H
  obtain ⟨t304, A90, H⟩ := H
  have A9 := aM A90
  clear A90
  replace H := iE_ H
  rcases H with ⟨c10b0, H⟩ | ⟨c10b0, H⟩
  {
  (first | rw [c10b0] | (simp only [i64_w, i32_w]; rw [c10b0]) | rw [@decide_eq_true _ _ (of_decide_eq_true c10b0)] | rw [@decide_eq_true _ _ (of_decide_eq_true c10b1)] | skip)
  have H' := aM H
  clear H
  go_wp2_with (first | (go_at_call 20; (with_reducible refine (impl_SumOf.calls kj4 _ _ l0 _ _ l1 t304 _ ?_ ?_ ?_ ?_ A9.out).mono ?_); exact qz6; exact HC0.out; exact qz7; exact HC1.out; rintro e w' ⟨rfl, ⟨nd, rfl⟩⟩; (try first | exact ⟨rfl, _, World.drewN_drewN _ _ _⟩ | exact ⟨rfl, _, Eq.trans (World.drewN_drewN _ _ _) (congrArg (World.drewN _) (Nat.add_assoc _ _ _))⟩)) | go_quiet (first | (go_at_call 20; (with_reducible refine (impl_SumOf.calls kj4 _ _ l0 _ _ l1 t304 _ ?_ ?_ ?_ ?_ A9.out).mono ?_); exact qz6; exact HC0.out; exact qz7; exact HC1.out; rintro e w' ⟨rfl, ⟨nd, rfl⟩⟩; (try first | exact ⟨rfl, _, World.drewN_drewN _ _ _⟩ | exact ⟨rfl, _, Eq.trans (World.drewN_drewN _ _ _) (congrArg (World.drewN _) (Nat.add_assoc _ _ _))⟩))))
  go_meet
  case rel => exact ⟨_, (true), qz3, H', ⟨by have := HJ4.out; first | omega | exact Nat.le_refl _⟩, by repeat (first | exact Drawn0.refl _ | apply Drawn0.step)⟩
  }
  {
  (first | rw [c10b0] | (simp only [i64_w, i32_w]; rw [c10b0]) | rw [@decide_eq_false _ _ (of_decide_eq_false c10b0)] | rw [@decide_eq_false _ _ (of_decide_eq_false c10b1)] | skip)
  replace H := iS_ H
  rcases H with ⟨c11, H⟩ | ⟨c11, H⟩
  {
  have c11b0 := beq_iff_eq.mpr c11
  have c11b1 := bne_eq_false_iff_eq.mpr c11
  have c11b2 : (l2.length == l0.length) = true := by first | simpa using c11 | (simp at c11 ⊢; omega)
  clear c11
  replace H := iQ_ H
  rcases H with ⟨c12b0, c12b1, H⟩ | ⟨c12, c12b0, c12b1, H⟩
  {
  replace H := Option.bind_eq_some_iff.mp H
  obtain ⟨t305, A130, H⟩ := H
  have A13 := aM A130
  clear A130
  replace H := iB_ H
  rcases H with ⟨rfl, H⟩ | ⟨rfl, H⟩
  {
  replace H := Option.bind_eq_some_iff.mp H
  obtain ⟨t306, A150, H⟩ := H
  have A15 := aM A150
  clear A150
  have H' := aM H
  clear H
  go_wp2_with (first | (go_at_call 20; (with_reducible refine (impl_SumOf.calls kj4 _ _ l0 _ _ l1 t304 _ ?_ ?_ ?_ ?_ A9.out).mono ?_); exact qz6; exact HC0.out; exact qz7; exact HC1.out; rintro e w' ⟨rfl, ⟨nd, rfl⟩⟩; (try first | exact ⟨rfl, _, World.drewN_drewN _ _ _⟩ | exact ⟨rfl, _, Eq.trans (World.drewN_drewN _ _ _) (congrArg (World.drewN _) (Nat.add_assoc _ _ _))⟩)) | (go_at_call 43; (with_reducible refine (impl_pricesOk.calls kj4 _ _ l2 true _ ?_ ?_ A13.out).mono ?_); exact qz16; exact HC2.out; rintro e w' ⟨rfl, ⟨nd, rfl⟩⟩; (try first | exact ⟨rfl, _, World.drewN_drewN _ _ _⟩ | exact ⟨rfl, _, Eq.trans (World.drewN_drewN _ _ _) (congrArg (World.drewN _) (Nat.add_assoc _ _ _))⟩)) | (go_at_call 43; (with_reducible refine (impl_pricesOk.calls kj4 _ _ l3 t306 _ ?side1 ?side2 A15.out).mono ?_); (case side1 => repeat (first | exact HR3.out | (with_reducible refine Kd.C_alloc ?_ _) | (with_reducible refine Kd.C_drewN ?_ _) | (with_reducible refine Kd.C_drew ?_))); (case side2 => exact HC3.out); rintro e w' ⟨rfl, ⟨nd, rfl⟩⟩; (try first | exact ⟨rfl, _, World.drewN_drewN _ _ _⟩ | exact ⟨rfl, _, Eq.trans (World.drewN_drewN _ _ _) (congrArg (World.drewN _) (Nat.add_assoc _ _ _))⟩)) | go_quiet (first | (go_at_call 20; (with_reducible refine (impl_SumOf.calls kj4 _ _ l0 _ _ l1 t304 _ ?_ ?_ ?_ ?_ A9.out).mono ?_); exact qz6; exact HC0.out; exact qz7; exact HC1.out; rintro e w' ⟨rfl, ⟨nd, rfl⟩⟩; (try first | exact ⟨rfl, _, World.drewN_drewN _ _ _⟩ | exact ⟨rfl, _, Eq.trans (World.drewN_drewN _ _ _) (congrArg (World.drewN _) (Nat.add_assoc _ _ _))⟩)) | (go_at_call 43; (with_reducible refine (impl_pricesOk.calls kj4 _ _ l2 true _ ?_ ?_ A13.out).mono ?_); exact qz16; exact HC2.out; rintro e w' ⟨rfl, ⟨nd, rfl⟩⟩; (try first | exact ⟨rfl, _, World.drewN_drewN _ _ _⟩ | exact ⟨rfl, _, Eq.trans (World.drewN_drewN _ _ _) (congrArg (World.drewN _) (Nat.add_assoc _ _ _))⟩)) | (go_at_call 43; (with_reducible refine (impl_pricesOk.calls kj4 _ _ l3 t306 _ ?side1 ?side2 A15.out).mono ?_); (case side1 => repeat (first | exact HR3.out | (with_reducible refine Kd.C_alloc ?_ _) | (with_reducible refine Kd.C_drewN ?_ _) | (with_reducible refine Kd.C_drew ?_))); (case side2 => exact HC3.out); rintro e w' ⟨rfl, ⟨nd, rfl⟩⟩; (try first | exact ⟨rfl, _, World.drewN_drewN _ _ _⟩ | exact ⟨rfl, _, Eq.trans (World.drewN_drewN _ _ _) (congrArg (World.drewN _) (Nat.add_assoc _ _ _))⟩))))
  go_meet
  case rel => exact ⟨_, (!t306), qz3, H', ⟨by have := HJ4.out; first | omega | exact Nat.le_refl _⟩, by repeat (first | exact Drawn0.refl _ | apply Drawn0.step)⟩
  }
  {
  have H' := aM H
  clear H
  go_wp2_with (first | (go_at_call 20; (with_reducible refine (impl_SumOf.calls kj4 _ _ l0 _ _ l1 t304 _ ?_ ?_ ?_ ?_ A9.out).mono ?_); exact qz6; exact HC0.out; exact qz7; exact HC1.out; rintro e w' ⟨rfl, ⟨nd, rfl⟩⟩; (try first | exact ⟨rfl, _, World.drewN_drewN _ _ _⟩ | exact ⟨rfl, _, Eq.trans (World.drewN_drewN _ _ _) (congrArg (World.drewN _) (Nat.add_assoc _ _ _))⟩)) | (go_at_call 43; (with_reducible refine (impl_pricesOk.calls kj4 _ _ l2 false _ ?_ ?_ A13.out).mono ?_); exact qz16; exact HC2.out; rintro e w' ⟨rfl, ⟨nd, rfl⟩⟩; (try first | exact ⟨rfl, _, World.drewN_drewN _ _ _⟩ | exact ⟨rfl, _, Eq.trans (World.drewN_drewN _ _ _) (congrArg (World.drewN _) (Nat.add_assoc _ _ _))⟩)) | go_quiet (first | (go_at_call 20; (with_reducible refine (impl_SumOf.calls kj4 _ _ l0 _ _ l1 t304 _ ?_ ?_ ?_ ?_ A9.out).mono ?_); exact qz6; exact HC0.out; exact qz7; exact HC1.out; rintro e w' ⟨rfl, ⟨nd, rfl⟩⟩; (try first | exact ⟨rfl, _, World.drewN_drewN _ _ _⟩ | exact ⟨rfl, _, Eq.trans (World.drewN_drewN _ _ _) (congrArg (World.drewN _) (Nat.add_assoc _ _ _))⟩)) | (go_at_call 43; (with_reducible refine (impl_pricesOk.calls kj4 _ _ l2 false _ ?_ ?_ A13.out).mono ?_); exact qz16; exact HC2.out; rintro e w' ⟨rfl, ⟨nd, rfl⟩⟩; (try first | exact ⟨rfl, _, World.drewN_drewN _ _ _⟩ | exact ⟨rfl, _, Eq.trans (World.drewN_drewN _ _ _) (congrArg (World.drewN _) (Nat.add_assoc _ _ _))⟩))))
  go_meet
  case rel => exact ⟨_, (true), qz3, H', ⟨by have := HJ4.out; first | omega | exact Nat.le_refl _⟩, by repeat (first | exact Drawn0.refl _ | apply Drawn0.step)⟩
  }
  }
  {
  have H' := aM H
  clear H
  go_wp2_with (first | (go_at_call 20; (with_reducible refine (impl_SumOf.calls kj4 _ _ l0 _ _ l1 t304 _ ?_ ?_ ?_ ?_ A9.out).mono ?_); exact qz6; exact HC0.out; exact qz7; exact HC1.out; rintro e w' ⟨rfl, ⟨nd, rfl⟩⟩; (try first | exact ⟨rfl, _, World.drewN_drewN _ _ _⟩ | exact ⟨rfl, _, Eq.trans (World.drewN_drewN _ _ _) (congrArg (World.drewN _) (Nat.add_assoc _ _ _))⟩)) | go_quiet (first | (go_at_call 20; (with_reducible refine (impl_SumOf.calls kj4 _ _ l0 _ _ l1 t304 _ ?_ ?_ ?_ ?_ A9.out).mono ?_); exact qz6; exact HC0.out; exact qz7; exact HC1.out; rintro e w' ⟨rfl, ⟨nd, rfl⟩⟩; (try first | exact ⟨rfl, _, World.drewN_drewN _ _ _⟩ | exact ⟨rfl, _, Eq.trans (World.drewN_drewN _ _ _) (congrArg (World.drewN _) (Nat.add_assoc _ _ _))⟩))))
  go_meet
  case rel => exact ⟨_, (true), qz3, H', ⟨by have := HJ4.out; first | omega | exact Nat.le_refl _⟩, by repeat (first | exact Drawn0.refl _ | apply Drawn0.step)⟩
  }
  }
  {
  have c11b0 := beq_eq_false_iff_ne.mpr c11
  have c11b1 := bne_iff_ne.mpr c11
  have c11b2 : (l2.length == l0.length) = false := by first | simpa using c11 | (simp at c11 ⊢; omega)
  have H' := aM H
  clear H
  go_wp2_with (first | (go_at_call 20; (with_reducible refine (impl_SumOf.calls kj4 _ _ l0 _ _ l1 t304 _ ?_ ?_ ?_ ?_ A9.out).mono ?_); exact qz6; exact HC0.out; exact qz7; exact HC1.out; rintro e w' ⟨rfl, ⟨nd, rfl⟩⟩; (try first | exact ⟨rfl, _, World.drewN_drewN _ _ _⟩ | exact ⟨rfl, _, Eq.trans (World.drewN_drewN _ _ _) (congrArg (World.drewN _) (Nat.add_assoc _ _ _))⟩)) | go_quiet (first | (go_at_call 20; (with_reducible refine (impl_SumOf.calls kj4 _ _ l0 _ _ l1 t304 _ ?_ ?_ ?_ ?_ A9.out).mono ?_); exact qz6; exact HC0.out; exact qz7; exact HC1.out; rintro e w' ⟨rfl, ⟨nd, rfl⟩⟩; (try first | exact ⟨rfl, _, World.drewN_drewN _ _ _⟩ | exact ⟨rfl, _, Eq.trans (World.drewN_drewN _ _ _) (congrArg (World.drewN _) (Nat.add_assoc _ _ _))⟩))))
  go_meet
  case rel => exact ⟨_, (true), qz3, H', ⟨by have := HJ4.out; first | omega | exact Nat.le_refl _⟩, by repeat (first | exact Drawn0.refl _ | apply Drawn0.step)⟩
  }
  }
 case rest =>
 clear HC8
 try clear c1
 try clear c2
 try clear c3
 try clear qi3
 obtain ⟨kq, x49_7, rfl, HA, HJ7, ⟨mc7, rfl⟩⟩ := hcut
 cases kq with
 | zero => exact absurd HA.out (by simp [impl_Proves.j1])
 | succ kj7 =>
 have H := HA.out
 clear HA
 simp only [impl_Proves.j1] at H
 replace H := iB_ H
 rcases H with ⟨rfl, H⟩ | ⟨rfl, H⟩
 {
 obtain rfl := Option.some.inj H
 go_wp2
 repeat (go_quiet (fail); try go_wp2)
 go_ret
 exact ⟨by first | rfl | (simp; done) | (simp [*]; done), by repeat (first | exact Drawn0.refl _ | apply Drawn0.step)⟩
 }
 {
 have H' := aM H
 clear H
 go_wp2
 repeat (go_quiet (fail); try go_wp2)
 go_loopg [52] kj7 (fun kq v52 w' => ∃ (x52_3 : Int), v52 = .int .i64 x52_3 ∧ Aside0 (impl_Proves.l0 kq l1 l2 l3 l0 (l0.length : Int) x52_3 = some r) ∧ Aside0 (kq ≤ kj7) ∧ Drawn0 w w')
 case atStart => exact ⟨(0), qz3, H', ⟨Nat.le_refl _⟩, by repeat (first | exact Drawn0.refl _ | apply Drawn0.step)⟩
 case round =>
 clear H'
 try clear c1
 try clear c2
 try clear c3
 try clear qi3
 try clear c16
 obtain ⟨x52_3, rfl, HA, HK3, ⟨m3, rfl⟩⟩ := hrel
 cases gk with
 | zero => exact absurd HA.out (by simp [impl_Proves.l0])
 | succ k3 =>
 have H := HA.out
 clear HA
 simp only [impl_Proves.l0] at H
 replace H := iE_ H
 rcases H with ⟨c17b0, H⟩ | ⟨c17b0, H⟩
 {
 replace H := iD_ H
 obtain ⟨c18b0, H⟩ := H
 replace H := iD_ H
 obtain ⟨c19b0, H⟩ := H
 have H' := aM H
 clear H
 have p307 : (0 ≤ (x52_3 : Int)) = True := et_
 have q307 : (x52_3 < (l0.length : Int)) = True := et_
 obtain ⟨ad307, A307_0, c307_0, e307, hx307_0, hl307_0, hi307_0⟩ := at_L1 HR0.out x52_3 dt_ dt_
 cases e307
 have HR307_0 := aM hi307_0
 have HC307_0 := aM hl307_0
 clear hi307_0 hl307_0
 go_wp2
 repeat (go_quiet (fail); try go_wp2)
 go_loopg [59] k3 (fun kq v59 w' => ∃ (x59_4 : Int), v59 = .int .i64 x59_4 ∧ Aside0 (impl_Proves.l1 kq l1 l2 l3 x52_3 l0 (l0.length : Int) x52_3 (rd_L1 l0 x52_3) ((rd_L1 l0 x52_3).length : Int) x59_4 = some r) ∧ Aside0 (kq ≤ k3) ∧ Drawn0 w w')
 case atStart => exact ⟨(0), qz3, H', ⟨Nat.le_refl _⟩, by repeat (first | exact Drawn0.refl _ | apply Drawn0.step)⟩
 case round =>
 clear H'
 try clear c1
 try clear c2
 try clear c3
 try clear qi3
 try clear c16
 try clear c17
 try clear c17b0
 try clear c18
 try clear c18b0
 try clear c19
 try clear c19b0
 try clear hx307_0
 try clear p307
 try clear q307
 obtain ⟨x59_4, rfl, HA, HK4, ⟨m4, rfl⟩⟩ := hrel
 cases gk with
 | zero => exact absurd HA.out (by simp [impl_Proves.l1])
 | succ k4 =>
 have H := HA.out
 clear HA
 simp only [impl_Proves.l1] at H
 replace H := iE_ H
 rcases H with ⟨c20b0, H⟩ | ⟨c20b0, H⟩
 {
 replace H := iD_ H
 obtain ⟨c21b0, H⟩ := H
 replace H := iD_ H
 obtain ⟨c22b0, H⟩ := H
 replace H := iD_ H
 obtain ⟨c23b0, H⟩ := H
 replace H := iD_ H
 obtain ⟨c24b0, H⟩ := H
 replace H := iD_ H
 obtain ⟨c25b0, H⟩ := H
 replace H := iE_ H
 rcases H with ⟨c26b0, H⟩ | ⟨c26b0, H⟩
 {
 obtain rfl := Option.some.inj H
 have p308 : (0 ≤ (x59_4 : Int)) = True := et_
 have q308 : (x59_4 < ((rd_L1 l0 x52_3).length : Int)) = True := et_
 obtain ⟨ad308, e308, hx308_0⟩ := Kd.at_int HR307_0.out x59_4 dt_ dt_
 cases e308
 have p309 : (0 ≤ (x52_3 : Int)) = True := et_
 have q309 : (x52_3 < (l2.length : Int)) = True := et_
 obtain ⟨ad309, e309, hx309_0⟩ := Kd.at_int HR2.out x52_3 dt_ dt_
 cases e309
 have p310 : (0 ≤ (x59_4 : Int)) = True := et_
 have q310 : (x59_4 < (l3.length : Int)) = True := et_
 obtain ⟨ad310, e310, hx310_0⟩ := Kd.at_int HR3.out x59_4 dt_ dt_
 cases e310
 go_wp2
 repeat (go_quiet (fail); try go_wp2)
 go_ret
 exact ⟨by first | rfl | (simp; done) | (simp [*]; done), by repeat (first | exact Drawn0.refl _ | apply Drawn0.step)⟩
 }
 {
 replace H := iD_ H
 obtain ⟨c27b0, H⟩ := H
 replace H := iQ_ H
 rcases H with ⟨c28b0, c28b1, H⟩ | ⟨c28, c28b0, c28b1, H⟩
 {
 replace H := iQ_ H
 rcases H with ⟨c29b0, c29b1, H⟩ | ⟨c29, c29b0, c29b1, H⟩
 {
 have H' := aM H
 clear H
 have p308 : (0 ≤ (x59_4 : Int)) = True := et_
 have q308 : (x59_4 < ((rd_L1 l0 x52_3).length : Int)) = True := et_
 obtain ⟨ad308, e308, hx308_0⟩ := Kd.at_int HR307_0.out x59_4 dt_ dt_
 cases e308
 have p309 : (0 ≤ (x52_3 : Int)) = True := et_
 have q309 : (x52_3 < (l2.length : Int)) = True := et_
 obtain ⟨ad309, e309, hx309_0⟩ := Kd.at_int HR2.out x52_3 dt_ dt_
 cases e309
 have p310 : (0 ≤ (x59_4 : Int)) = True := et_
 have q310 : (x59_4 < (l3.length : Int)) = True := et_
 obtain ⟨ad310, e310, hx310_0⟩ := Kd.at_int HR3.out x59_4 dt_ dt_
 cases e310
 have p311 : (0 ≤ (x52_3 : Int)) = True := et_
 have q311 : (x52_3 < (l1.length : Int)) = True := et_
 obtain ⟨ad311, e311, hx311_0⟩ := Kd.at_int HR1.out x52_3 dt_ dt_
 cases e311
 have p312 : (0 ≤ (x52_3 : Int)) = True := et_
 have q312 : (x52_3 < (l2.length : Int)) = True := et_
 obtain ⟨ad312, e312, hx312_0⟩ := Kd.at_int HR2.out x52_3 dt_ dt_
 obtain rfl : ad309 = ad312 := (by injection e312)
 have p313 : (0 ≤ (x59_4 : Int)) = True := et_
 have q313 : (x59_4 < (l3.length : Int)) = True := et_
 obtain ⟨ad313, e313, hx313_0⟩ := Kd.at_int HR3.out x59_4 dt_ dt_
 obtain rfl : ad310 = ad313 := (by injection e313)
 go_wp2
 repeat (go_quiet (fail); try go_wp2)
 go_roundg k4
 case measure => have := HJ4.out; have := HJ7.out; have := HK3.out; have := HK4.out; omega
 case rel => exact ⟨(wrap64 (x59_4 + 1)), qz3, H', ⟨by have := HJ4.out; have := HJ7.out; have := HK3.out; have := HK4.out; omega⟩, by repeat (first | exact Drawn0.refl _ | apply Drawn0.step)⟩
 }
 {
 obtain rfl := Option.some.inj H
 have p308 : (0 ≤ (x59_4 : Int)) = True := et_
 have q308 : (x59_4 < ((rd_L1 l0 x52_3).length : Int)) = True := et_
 obtain ⟨ad308, e308, hx308_0⟩ := Kd.at_int HR307_0.out x59_4 dt_ dt_
 cases e308
 have p309 : (0 ≤ (x52_3 : Int)) = True := et_
 have q309 : (x52_3 < (l2.length : Int)) = True := et_
 obtain ⟨ad309, e309, hx309_0⟩ := Kd.at_int HR2.out x52_3 dt_ dt_
 cases e309
 have p310 : (0 ≤ (x59_4 : Int)) = True := et_
 have q310 : (x59_4 < (l3.length : Int)) = True := et_
 obtain ⟨ad310, e310, hx310_0⟩ := Kd.at_int HR3.out x59_4 dt_ dt_
 cases e310
 have p311 : (0 ≤ (x52_3 : Int)) = True := et_
 have q311 : (x52_3 < (l1.length : Int)) = True := et_
 obtain ⟨ad311, e311, hx311_0⟩ := Kd.at_int HR1.out x52_3 dt_ dt_
 cases e311
 have p312 : (0 ≤ (x52_3 : Int)) = True := et_
 have q312 : (x52_3 < (l2.length : Int)) = True := et_
 obtain ⟨ad312, e312, hx312_0⟩ := Kd.at_int HR2.out x52_3 dt_ dt_
 obtain rfl : ad309 = ad312 := (by injection e312)
 have p313 : (0 ≤ (x59_4 : Int)) = True := et_
 have q313 : (x59_4 < (l3.length : Int)) = True := et_
 obtain ⟨ad313, e313, hx313_0⟩ := Kd.at_int HR3.out x59_4 dt_ dt_
 obtain rfl : ad310 = ad313 := (by injection e313)
 go_wp2
 repeat (go_quiet (fail); try go_wp2)
 go_ret
 exact ⟨by first | rfl | (simp; done) | (simp [*]; done), by repeat (first | exact Drawn0.refl _ | apply Drawn0.step)⟩
 }
 }
 {
 have H' := aM H
 clear H
 have p308 : (0 ≤ (x59_4 : Int)) = True := et_
 have q308 : (x59_4 < ((rd_L1 l0 x52_3).length : Int)) = True := et_
 obtain ⟨ad308, e308, hx308_0⟩ := Kd.at_int HR307_0.out x59_4 dt_ dt_
 cases e308
 have p309 : (0 ≤ (x52_3 : Int)) = True := et_
 have q309 : (x52_3 < (l2.length : Int)) = True := et_
 obtain ⟨ad309, e309, hx309_0⟩ := Kd.at_int HR2.out x52_3 dt_ dt_
 cases e309
 have p310 : (0 ≤ (x59_4 : Int)) = True := et_
 have q310 : (x59_4 < (l3.length : Int)) = True := et_
 obtain ⟨ad310, e310, hx310_0⟩ := Kd.at_int HR3.out x59_4 dt_ dt_
 cases e310
 have p311 : (0 ≤ (x52_3 : Int)) = True := et_
 have q311 : (x52_3 < (l1.length : Int)) = True := et_
 obtain ⟨ad311, e311, hx311_0⟩ := Kd.at_int HR1.out x52_3 dt_ dt_
 cases e311
 go_wp2
 repeat (go_quiet (fail); try go_wp2)
 go_roundg k4
 case measure => have := HJ4.out; have := HJ7.out; have := HK3.out; have := HK4.out; omega
 case rel => exact ⟨(wrap64 (x59_4 + 1)), qz3, H', ⟨by have := HJ4.out; have := HJ7.out; have := HK3.out; have := HK4.out; omega⟩, by repeat (first | exact Drawn0.refl _ | apply Drawn0.step)⟩
 }
 }
 }
 {
 have H' := aM H
 clear H
 go_wp2
 repeat (go_quiet (fail); try go_wp2)
 go_roundg k4
 case measure => have := HJ4.out; have := HJ7.out; have := HK3.out; have := HK4.out; omega
 case rel => exact ⟨(wrap64 (x52_3 + 1)), qz3, H', ⟨by have := HJ4.out; have := HJ7.out; have := HK3.out; have := HK4.out; omega⟩, by repeat (first | exact Drawn0.refl _ | apply Drawn0.step)⟩
 }
 }
 {
 have H' := aM H
 clear H
 go_wp2
 repeat (go_quiet (fail); try go_wp2)
 go_loopg [100] k3 (fun kq v100 w' => ∃ (x100_4 : Int), v100 = .int .i64 x100_4 ∧ Aside0 (impl_Proves.l2 kq l1 l3 (l3.length : Int) x100_4 = some r) ∧ Aside0 (kq ≤ k3) ∧ Drawn0 w w')
 case atStart => exact ⟨(0), qz3, H', ⟨Nat.le_refl _⟩, by repeat (first | exact Drawn0.refl _ | apply Drawn0.step)⟩
 case round =>
 clear H'
 try clear c1
 try clear c2
 try clear c3
 try clear qi3
 try clear c16
 try clear c17
 try clear c17b0
 obtain ⟨x100_4, rfl, HA, HK4, ⟨m4, rfl⟩⟩ := hrel
 cases gk with
 | zero => exact absurd HA.out (by simp [impl_Proves.l2])
 | succ k4 =>
 have H := HA.out
 clear HA
 simp only [impl_Proves.l2] at H
 replace H := iE_ H
 rcases H with ⟨c30b0, H⟩ | ⟨c30b0, H⟩
 {
 replace H := iD_ H
 obtain ⟨c31b0, H⟩ := H
 replace H := iD_ H
 obtain ⟨c32b0, H⟩ := H
 replace H := iE_ H
 rcases H with ⟨c33b0, H⟩ | ⟨c33b0, H⟩
 {
 obtain rfl := Option.some.inj H
 have p314 : (0 ≤ (x100_4 : Int)) = True := et_
 have q314 : (x100_4 < (l3.length : Int)) = True := et_
 obtain ⟨ad314, e314, hx314_0⟩ := Kd.at_int HR3.out x100_4 dt_ dt_
 cases e314
 go_wp2
 repeat (go_quiet (fail); try go_wp2)
 go_ret
 exact ⟨by first | rfl | (simp; done) | (simp [*]; done), by repeat (first | exact Drawn0.refl _ | apply Drawn0.step)⟩
 }
 {
 replace H := iQ_ H
 rcases H with ⟨c34b0, c34b1, H⟩ | ⟨c34, c34b0, c34b1, H⟩
 {
 have H' := aM H
 clear H
 have p314 : (0 ≤ (x100_4 : Int)) = True := et_
 have q314 : (x100_4 < (l3.length : Int)) = True := et_
 obtain ⟨ad314, e314, hx314_0⟩ := Kd.at_int HR3.out x100_4 dt_ dt_
 cases e314
 go_wp2
 repeat (go_quiet (fail); try go_wp2)
 go_roundg k4
 case measure => have := HJ4.out; have := HJ7.out; have := HK3.out; have := HK4.out; omega
 case rel => exact ⟨(wrap64 (x100_4 + 1)), qz3, H', ⟨by have := HJ4.out; have := HJ7.out; have := HK3.out; have := HK4.out; omega⟩, by repeat (first | exact Drawn0.refl _ | apply Drawn0.step)⟩
 }
 {
 replace H := Option.bind_eq_some_iff.mp H
 obtain ⟨t315, A350, H⟩ := H
 have A35 := aM A350
 clear A350
 replace H := iB_ H
 rcases H with ⟨rfl, H⟩ | ⟨rfl, H⟩
 {
 have H' := aM H
 clear H
 have p314 : (0 ≤ (x100_4 : Int)) = True := et_
 have q314 : (x100_4 < (l3.length : Int)) = True := et_
 obtain ⟨ad314, e314, hx314_0⟩ := Kd.at_int HR3.out x100_4 dt_ dt_
 cases e314
 go_wp2_with (first | (go_at_call 44; (with_reducible refine (impl_hasInt.calls k4 _ _ l1 x100_4 true _ ?_ ?_ A35.out).mono ?_); exact qz7; exact HC1.out; rintro e w' ⟨rfl, ⟨nd, rfl⟩⟩; (try first | exact ⟨rfl, _, World.drewN_drewN _ _ _⟩ | exact ⟨rfl, _, Eq.trans (World.drewN_drewN _ _ _) (congrArg (World.drewN _) (Nat.add_assoc _ _ _))⟩)) | go_quiet (first | (go_at_call 44; (with_reducible refine (impl_hasInt.calls k4 _ _ l1 x100_4 true _ ?_ ?_ A35.out).mono ?_); exact qz7; exact HC1.out; rintro e w' ⟨rfl, ⟨nd, rfl⟩⟩; (try first | exact ⟨rfl, _, World.drewN_drewN _ _ _⟩ | exact ⟨rfl, _, Eq.trans (World.drewN_drewN _ _ _) (congrArg (World.drewN _) (Nat.add_assoc _ _ _))⟩))))
 go_roundg k4
 case measure => have := HJ4.out; have := HJ7.out; have := HK3.out; have := HK4.out; omega
 case rel => exact ⟨(wrap64 (x100_4 + 1)), qz3, H', ⟨by have := HJ4.out; have := HJ7.out; have := HK3.out; have := HK4.out; omega⟩, by repeat (first | exact Drawn0.refl _ | apply Drawn0.step)⟩
 }
 {
 obtain rfl := Option.some.inj H
 have p314 : (0 ≤ (x100_4 : Int)) = True := et_
 have q314 : (x100_4 < (l3.length : Int)) = True := et_
 obtain ⟨ad314, e314, hx314_0⟩ := Kd.at_int HR3.out x100_4 dt_ dt_
 cases e314
 go_wp2_with (first | (go_at_call 44; (with_reducible refine (impl_hasInt.calls k4 _ _ l1 x100_4 false _ ?_ ?_ A35.out).mono ?_); exact qz7; exact HC1.out; rintro e w' ⟨rfl, ⟨nd, rfl⟩⟩; (try first | exact ⟨rfl, _, World.drewN_drewN _ _ _⟩ | exact ⟨rfl, _, Eq.trans (World.drewN_drewN _ _ _) (congrArg (World.drewN _) (Nat.add_assoc _ _ _))⟩)) | go_quiet (first | (go_at_call 44; (with_reducible refine (impl_hasInt.calls k4 _ _ l1 x100_4 false _ ?_ ?_ A35.out).mono ?_); exact qz7; exact HC1.out; rintro e w' ⟨rfl, ⟨nd, rfl⟩⟩; (try first | exact ⟨rfl, _, World.drewN_drewN _ _ _⟩ | exact ⟨rfl, _, Eq.trans (World.drewN_drewN _ _ _) (congrArg (World.drewN _) (Nat.add_assoc _ _ _))⟩))))
 go_ret
 exact ⟨by first | rfl | (simp; done) | (simp [*]; done), by repeat (first | exact Drawn0.refl _ | apply Drawn0.step)⟩
 }
 }
 }
 }
 {
 obtain rfl := Option.some.inj H
 go_wp2
 repeat (go_quiet (fail); try go_wp2)
 go_ret
 exact ⟨by first | rfl | (simp; done) | (simp [*]; done), by repeat (first | exact Drawn0.refl _ | apply Drawn0.step)⟩
 }
 }
 }
end Go.Proofs.Ytbebfhlejnidkaa.PFnMatched
