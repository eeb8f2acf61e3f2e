-- Made by a program of this session out of the translation. Lean checks it.
import Derived.Test.YtbebfhlejnidkaaPFnProvedx13
namespace Go.Proofs.Ytbebfhlejnidkaa.PFnProved
open Go.RowKit Go.Proofs.YtbebfhlejnidkaaW.PrintWords Go.Proofs.YtbebfhlejnidkaaW.PrintLast Go.Proofs.YtbebfhlejnidkaaW.PrintMore
attribute [local go_sem] max2_int min2_int max_two min_two max_three min_three max_four min_four   -- for this text's walks alone
set_option linter.unusedVariables false
set_option linter.unusedSimpArgs false

/-! ### spec_Proves: function 23 -/
mutual
def spec_Proves.j0 : Nat → List (List Int) → List Int → List Int → List Int → Bool → Option (Bool)
 | 0, _, _, _, _, _ => none
 | k + 1, x0, x1, x2, x3, x43 => if x43 = true then (some false) else (if 0 ≤ (x3.length : Int) then (if ((x3.length : Int) : Int).toNat ≤ 281474976710656 then (spec_Proves.l0 k x0 x1 x2 x3 (List.replicate ((x3.length : Int) : Int).toNat false) 0) else (none)) else (none))
def spec_Proves.l0 : Nat → List (List Int) → List Int → List Int → List Int → List Bool → Int → Option (Bool)
 | 0, _, _, _, _, _, _ => none
 | k + 1, x0, x1, x2, x3, x9, x10 => if x10 < (x0.length : Int) then (if 0 ≤ x10 then (if ((rd_L1 x0 x10).length : Int) = (x3.length : Int) then (spec_Proves.l1 k x0 x1 x2 x3 x9 x10 0) else (some false)) else (none)) else (spec_Proves.l2 k x3 x9 0)
def spec_Proves.l1 : Nat → List (List Int) → List Int → List Int → List Int → List Bool → Int → Int → Option (Bool)
 | 0, _, _, _, _, _, _, _ => none
 | k + 1, x0, x1, x2, x3, x9, x10, x11 => if x11 < (x3.length : Int) then (if 0 ≤ x10 then (if x10 < (x2.length : Int) then (if 0 ≤ x11 then (if x10 < (x0.length : Int) then (if x11 < ((rd_L1 x0 x10).length : Int) then (if (wrap64 ((rd x2 x10) + (rd x3 x11))) > (rd (rd_L1 x0 x10) x11) then (some false) else (if x10 < (x1.length : Int) then (if (rd x1 x10) = x11 then (if (wrap64 ((rd x2 x10) + (rd x3 x11))) = (rd (rd_L1 x0 x10) x11) then (if x11 < (x9.length : Int) then (if rdOf false x9 x11 = true then (spec_Proves.l1 k x0 x1 x2 x3 (x9.set (x11 : Int).toNat true) x10 (wrap64 (x11 + 1))) else (spec_Proves.l1 k x0 x1 x2 x3 (x9.set (x11 : Int).toNat ((rd x1 x10) == x11)) x10 (wrap64 (x11 + 1)))) else (none)) else (some false)) else (if x11 < (x9.length : Int) then (if rdOf false x9 x11 = true then (spec_Proves.l1 k x0 x1 x2 x3 (x9.set (x11 : Int).toNat true) x10 (wrap64 (x11 + 1))) else (spec_Proves.l1 k x0 x1 x2 x3 (x9.set (x11 : Int).toNat ((rd x1 x10) == x11)) x10 (wrap64 (x11 + 1)))) else (none))) else (none))) else (none)) else (none)) else (none)) else (none)) else (none)) else (spec_Proves.l0 k x0 x1 x2 x3 x9 (wrap64 (x10 + 1)))
def spec_Proves.l2 : Nat → List Int → List Bool → Int → Option (Bool)
 | 0, _, _, _ => none
 | k + 1, x3, x9, x12 => if x12 < (x3.length : Int) then (if 0 ≤ x12 then (if (rd x3 x12) > 0 then (some false) else (if x12 < (x9.length : Int) then (if rdOf false x9 x12 = true then (spec_Proves.l2 k x3 x9 (wrap64 (x12 + 1))) else (if (rd x3 x12) = 0 then (spec_Proves.l2 k x3 x9 (wrap64 (x12 + 1))) else (some false))) else (none))) else (none)) else (some true)
end
def spec_Proves.f (k : Nat) (l0 : List (List Int)) (l1 : List Int) (l2 : List Int) (l3 : List Int) : Option (Bool) := (spec_SumOf.f k l0 l1).bind fun t480 => (if t480 < 0 then (spec_Proves.j0 k l0 l1 l2 l3 true) else (if (l0.length : Int) = 0 then (if (l3.length : Int) > 0 then (spec_Proves.j0 k l0 l1 l2 l3 true) else (if (l2.length : Int) = (l0.length : Int) then ((spec_l4Small.f k l2).bind fun t481 => (if t481 = true then ((spec_l4Small.f k l3).bind fun t482 => (spec_Proves.j0 k l0 l1 l2 l3 (!t482))) else (spec_Proves.j0 k l0 l1 l2 l3 true))) else (spec_Proves.j0 k l0 l1 l2 l3 true))) else (if (l2.length : Int) = (l0.length : Int) then ((spec_l4Small.f k l2).bind fun t483 => (if t483 = true then ((spec_l4Small.f k l3).bind fun t484 => (spec_Proves.j0 k l0 l1 l2 l3 (!t484))) else (spec_Proves.j0 k l0 l1 l2 l3 true))) else (spec_Proves.j0 k l0 l1 l2 l3 true))))
theorem spec_Proves.mono_l : ∀ k, (∀ y0 y1 y2 y3 y4, LeO (spec_Proves.j0 k y0 y1 y2 y3 y4) (spec_Proves.j0 (k + 1) y0 y1 y2 y3 y4)) ∧ (∀ y0 y1 y2 y3 y4 y5, LeO (spec_Proves.l0 k y0 y1 y2 y3 y4 y5) (spec_Proves.l0 (k + 1) y0 y1 y2 y3 y4 y5)) ∧ (∀ y0 y1 y2 y3 y4 y5 y6, LeO (spec_Proves.l1 k y0 y1 y2 y3 y4 y5 y6) (spec_Proves.l1 (k + 1) y0 y1 y2 y3 y4 y5 y6)) ∧ (∀ y0 y1 y2, LeO (spec_Proves.l2 k y0 y1 y2) (spec_Proves.l2 (k + 1) y0 y1 y2))
 | 0 => ⟨fun _ _ _ _ _ r h => by simp [spec_Proves.j0] at h, fun _ _ _ _ _ _ r h => by simp [spec_Proves.l0] at h, fun _ _ _ _ _ _ _ r h => by simp [spec_Proves.l1] at h, fun _ _ _ r h => by simp [spec_Proves.l2] at h⟩
 | k + 1 => by
  obtain ⟨ih0, ih1, ih2, ih3⟩ := spec_Proves.mono_l k
  refine ⟨?_, ?_, ?_, ?_⟩
  {
  intro y0 y1 y2 y3 y4
  unfold spec_Proves.j0
  have j0 := @spec_SumOf.mono
  have j1 := @spec_l4Small.mono
  exact qL
  }
  {
  intro y0 y1 y2 y3 y4 y5
  unfold spec_Proves.l0
  have j0 := @spec_SumOf.mono
  have j1 := @spec_l4Small.mono
  exact qL
  }
  {
  intro y0 y1 y2 y3 y4 y5 y6
  unfold spec_Proves.l1
  have j0 := @spec_SumOf.mono
  have j1 := @spec_l4Small.mono
  exact qL
  }
  {
  intro y0 y1 y2
  unfold spec_Proves.l2
  have j0 := @spec_SumOf.mono
  have j1 := @spec_l4Small.mono
  exact qL
  }
theorem spec_Proves.mono : ∀ a0 a1 a2 a3 k, LeO (spec_Proves.f k a0 a1 a2 a3) (spec_Proves.f (k + 1) a0 a1 a2 a3) := by
 intro a0 a1 a2 a3 k
 obtain ⟨ih0, ih1, ih2, ih3⟩ := spec_Proves.mono_l k
 unfold spec_Proves.f
 have j0 := @spec_SumOf.mono
 have j1 := @spec_l4Small.mono
 exact qL
set_option maxHeartbeats 8000000 in
set_option maxRecDepth 100000 in
theorem spec_Proves.calls (k : Nat) (A0 : Option Addr) (c0 : Nat) (l0 : List (List Int)) (A1 : Option Addr) (c1 : Nat) (l1 : List Int) (A2 : Option Addr) (c2 : Nat) (l2 : List Int) (A3 : Option Addr) (c3 : Nat) (l3 : List Int) (r : Bool) (w : World) (hr0 : Kd.C (Kd.slice 3 (Kd.int .i64)) w A0 l0.length l0) (hc0 : l0.length ≤ c0) (hr1 : Kd.C (Kd.int .i64) w A1 l1.length l1) (hc1 : l1.length ≤ c1) (hr2 : Kd.C (Kd.int .i64) w A2 l2.length l2) (hc2 : l2.length ≤ c2) (hr3 : Kd.C (Kd.int .i64) w A3 l3.length l3) (hc3 : l3.length ≤ c3) (h : spec_Proves.f k l0 l1 l2 l3 = some r) :
  Calls Try.prog 23 #[.slice A0 l0.length c0, .slice A1 l1.length c1, .slice A2 l2.length c2, .slice A3 l3.length c3] w fun e w' => e = .returned (.bool r) ∧ Below w.heap.size w w' := by
 have HR0 := aM hr0
 have HC0 := aM hc0
 clear hr0 hc0
 have HR1 := aM hr1
 have HC1 := aM hc1
 clear hr1 hc1
 have HR2 := aM hr2
 have HC2 := aM hc2
 clear hr2 hc2
 have HR3 := aM hr3
 have HC3 := aM hc3
 clear hr3 hc3
 have HB := aM (Below.refl w.heap.size w)
 have H : ((spec_SumOf.f k l0 l1).bind fun t480 => (if t480 < 0 then (spec_Proves.j0 k l0 l1 l2 l3 true) else (if (l0.length : Int) = 0 then (if (l3.length : Int) > 0 then (spec_Proves.j0 k l0 l1 l2 l3 true) else (if (l2.length : Int) = (l0.length : Int) then ((spec_l4Small.f k l2).bind fun t481 => (if t481 = true then ((spec_l4Small.f k l3).bind fun t482 => (spec_Proves.j0 k l0 l1 l2 l3 (!t482))) else (spec_Proves.j0 k l0 l1 l2 l3 true))) else (spec_Proves.j0 k l0 l1 l2 l3 true))) else (if (l2.length : Int) = (l0.length : Int) then ((spec_l4Small.f k l2).bind fun t483 => (if t483 = true then ((spec_l4Small.f k l3).bind fun t484 => (spec_Proves.j0 k l0 l1 l2 l3 (!t484))) else (spec_Proves.j0 k l0 l1 l2 l3 true))) else (spec_Proves.j0 k l0 l1 l2 l3 true))))) = some r := h
 clear h
 have HC5 := aM H
 clear H
 go_enter Try.func23, Try.ntmps23
 go_upto_region 1 with (fail)
 repeat (go_quiet (fail); go_upto_region 1 with (fail))
 go_cut [43] (fun v43 wc => ∃ (kq : Nat) (x43_4 : Bool), v43 = .bool x43_4 ∧ Aside0 (spec_Proves.j0 kq l0 l1 l2 l3 x43_4 = some r) ∧ Aside0 (kq ≤ k) ∧ Aside0 (Below w.heap.size w wc))
 case first =>
  have H := HC5.out
  clear HC5
  replace H := Option.bind_eq_some_iff.mp H
  obtain ⟨t480, A60, H⟩ := H
  replace H : (if t480 < 0 then (spec_Proves.j0 k l0 l1 l2 l3 true) else (if (l0.length : Int) = 0 then (if (l3.length : Int) > 0 then (spec_Proves.j0 k l0 l1 l2 l3 true) else (if (l2.length : Int) = (l0.length : Int) then ((spec_l4Small.f k l2).bind fun t481 => (if t481 = true then ((spec_l4Small.f k l3).bind fun t482 => (spec_Proves.j0 k l0 l1 l2 l3 (!t482))) else (spec_Proves.j0 k l0 l1 l2 l3 true))) else (spec_Proves.j0 k l0 l1 l2 l3 true))) else (if (l2.length : Int) = (l0.length : Int) then ((spec_l4Small.f k l2).bind fun t483 => (if t483 = true then ((spec_l4Small.f k l3).bind fun t484 => (spec_Proves.j0 k l0 l1 l2 l3 (!t484))) else (spec_Proves.j0 k l0 l1 l2 l3 true))) else (spec_Proves.j0 k l0 l1 l2 l3 true)))) = some r := H
  have A6 := aM A60
  clear A60
  by_cases c7 : t480 < 0
  {
  rw [if_pos c7] at H
  have c7b0 := decide_eq_true c7
  clear c7
  (first | rw [c7b0] | (simp only [i64_w, i32_w]; rw [c7b0]) | rw [@decide_eq_true _ _ (of_decide_eq_true c7b0)] | rw [@decide_eq_true _ _ (of_decide_eq_true c7b1)] | skip)
  have H' := aM H
  clear H
  go_wp2_with (first | (go_at_call 24; (with_reducible refine (spec_SumOf.calls k _ _ l0 _ _ l1 t480 _ ?side1 ?side2 ?side3 ?side4 A6.out).mono ?_); (case side1 => exact qz8); (case side2 => exact HC0.out); (case side3 => exact qz9); (case side4 => exact HC1.out); rintro e w' ⟨rfl, ⟨nd, rfl⟩⟩; (try first | exact ⟨rfl, _, World.drewN_drewN _ _ _⟩ | exact ⟨rfl, _, Eq.trans (World.drewN_drewN _ _ _) (congrArg (World.drewN _) (Nat.add_assoc _ _ _))⟩)))
  repeat (go_quiet (first | (go_at_call 24; (with_reducible refine (spec_SumOf.calls k _ _ l0 _ _ l1 t480 _ ?side1 ?side2 ?side3 ?side4 A6.out).mono ?_); (case side1 => exact qz8); (case side2 => exact HC0.out); (case side3 => exact qz9); (case side4 => exact HC1.out); rintro e w' ⟨rfl, ⟨nd, rfl⟩⟩; (try first | exact ⟨rfl, _, World.drewN_drewN _ _ _⟩ | exact ⟨rfl, _, Eq.trans (World.drewN_drewN _ _ _) (congrArg (World.drewN _) (Nat.add_assoc _ _ _))⟩))); try go_wp2_with (first | (go_at_call 24; (with_reducible refine (spec_SumOf.calls k _ _ l0 _ _ l1 t480 _ ?side1 ?side2 ?side3 ?side4 A6.out).mono ?_); (case side1 => exact qz8); (case side2 => exact HC0.out); (case side3 => exact qz9); (case side4 => exact HC1.out); rintro e w' ⟨rfl, ⟨nd, rfl⟩⟩; (try first | exact ⟨rfl, _, World.drewN_drewN _ _ _⟩ | exact ⟨rfl, _, Eq.trans (World.drewN_drewN _ _ _) (congrArg (World.drewN _) (Nat.add_assoc _ _ _))⟩))))
  go_meet
  case rel => exact ⟨_, (true), qz5, H', ⟨by first | omega | exact Nat.le_refl _⟩, ⟨qz1⟩⟩
  }
  {
  rw [if_neg c7] at H
  have c7b0 := decide_eq_false c7
  clear c7
  (first | rw [c7b0] | (simp only [i64_w, i32_w]; rw [c7b0]) | rw [@decide_eq_false _ _ (of_decide_eq_false c7b0)] | rw [@decide_eq_false _ _ (of_decide_eq_false c7b1)] | skip)
  by_cases c8 : (l0.length : Int) = 0
  {
  rw [if_pos c8] at H
  have c8b0 := beq_iff_eq.mpr c8
  have c8b1 := bne_eq_false_iff_eq.mpr c8
  clear c8
  by_cases c9 : (l3.length : Int) > 0
  {
  rw [if_pos c9] at H
  have c9b0 := decide_eq_true c9
  have c9b1 : decide (0 < l3.length) = true := decide_eq_true (by omega)
  clear c9
  have H' := aM H
  clear H
  go_wp2_with (first | (go_at_call 24; (with_reducible refine (spec_SumOf.calls k _ _ l0 _ _ l1 t480 _ ?side1 ?side2 ?side3 ?side4 A6.out).mono ?_); (case side1 => exact qz8); (case side2 => exact HC0.out); (case side3 => exact qz9); (case side4 => exact HC1.out); rintro e w' ⟨rfl, ⟨nd, rfl⟩⟩; (try first | exact ⟨rfl, _, World.drewN_drewN _ _ _⟩ | exact ⟨rfl, _, Eq.trans (World.drewN_drewN _ _ _) (congrArg (World.drewN _) (Nat.add_assoc _ _ _))⟩)))
  repeat (go_quiet (first | (go_at_call 24; (with_reducible refine (spec_SumOf.calls k _ _ l0 _ _ l1 t480 _ ?side1 ?side2 ?side3 ?side4 A6.out).mono ?_); (case side1 => exact qz8); (case side2 => exact HC0.out); (case side3 => exact qz9); (case side4 => exact HC1.out); rintro e w' ⟨rfl, ⟨nd, rfl⟩⟩; (try first | exact ⟨rfl, _, World.drewN_drewN _ _ _⟩ | exact ⟨rfl, _, Eq.trans (World.drewN_drewN _ _ _) (congrArg (World.drewN _) (Nat.add_assoc _ _ _))⟩))); try go_wp2_with (first | (go_at_call 24; (with_reducible refine (spec_SumOf.calls k _ _ l0 _ _ l1 t480 _ ?side1 ?side2 ?side3 ?side4 A6.out).mono ?_); (case side1 => exact qz8); (case side2 => exact HC0.out); (case side3 => exact qz9); (case side4 => exact HC1.out); rintro e w' ⟨rfl, ⟨nd, rfl⟩⟩; (try first | exact ⟨rfl, _, World.drewN_drewN _ _ _⟩ | exact ⟨rfl, _, Eq.trans (World.drewN_drewN _ _ _) (congrArg (World.drewN _) (Nat.add_assoc _ _ _))⟩))))
  go_meet
  case rel => exact ⟨_, (true), qz5, H', ⟨by first | omega | exact Nat.le_refl _⟩, ⟨qz1⟩⟩
  }
  {
  rw [if_neg c9] at H
  have c9b0 := decide_eq_false c9
  have c9b1 : decide (0 < l3.length) = false := decide_eq_false (by omega)
  clear c9
  by_cases c10 : (l2.length : Int) = (l0.length : Int)
  {
  rw [if_pos c10] at H
  have c10b0 := beq_iff_eq.mpr c10
  have c10b1 := bne_eq_false_iff_eq.mpr c10
  have c10b2 : (l2.length == l0.length) = true := by first | simpa using c10 | (simp at c10 ⊢; omega)
  clear c10
  replace H := Option.bind_eq_some_iff.mp H
  obtain ⟨t481, A110, H⟩ := H
  replace H : (if t481 = true then ((spec_l4Small.f k l3).bind fun t482 => (spec_Proves.j0 k l0 l1 l2 l3 (!t482))) else (spec_Proves.j0 k l0 l1 l2 l3 true)) = some r := H
  have A11 := aM A110
  clear A110
  by_cases c12 : t481 = true
  {
  subst c12
  rw [if_pos rfl] at H
  replace H := Option.bind_eq_some_iff.mp H
  obtain ⟨t482, A130, H⟩ := H
  replace H : (spec_Proves.j0 k l0 l1 l2 l3 (!t482)) = some r := H
  have A13 := aM A130
  clear A130
  have H' := aM H
  clear H
  go_wp2_with (first | (go_at_call 24; (with_reducible refine (spec_SumOf.calls k _ _ l0 _ _ l1 t480 _ ?side1 ?side2 ?side3 ?side4 A6.out).mono ?_); (case side1 => exact qz8); (case side2 => exact HC0.out); (case side3 => exact qz9); (case side4 => exact HC1.out); rintro e w' ⟨rfl, ⟨nd, rfl⟩⟩; (try first | exact ⟨rfl, _, World.drewN_drewN _ _ _⟩ | exact ⟨rfl, _, Eq.trans (World.drewN_drewN _ _ _) (congrArg (World.drewN _) (Nat.add_assoc _ _ _))⟩)) | (go_at_call 49; (with_reducible refine (spec_l4Small.calls k _ _ l2 true _ ?side1 ?side2 A11.out).mono ?_); (case side1 => exact qz51); (case side2 => exact HC2.out); rintro e w' ⟨rfl, ⟨nd, rfl⟩⟩; (try first | exact ⟨rfl, _, World.drewN_drewN _ _ _⟩ | exact ⟨rfl, _, Eq.trans (World.drewN_drewN _ _ _) (congrArg (World.drewN _) (Nat.add_assoc _ _ _))⟩)) | (go_at_call 49; (with_reducible refine (spec_l4Small.calls k _ _ l3 t482 _ ?side1 ?side2 A13.out).mono ?_); (case side1 => exact qz52); (case side2 => exact HC3.out); rintro e w' ⟨rfl, ⟨nd, rfl⟩⟩; (try first | exact ⟨rfl, _, World.drewN_drewN _ _ _⟩ | exact ⟨rfl, _, Eq.trans (World.drewN_drewN _ _ _) (congrArg (World.drewN _) (Nat.add_assoc _ _ _))⟩)))
  repeat (go_quiet (first | (go_at_call 24; (with_reducible refine (spec_SumOf.calls k _ _ l0 _ _ l1 t480 _ ?side1 ?side2 ?side3 ?side4 A6.out).mono ?_); (case side1 => exact qz8); (case side2 => exact HC0.out); (case side3 => exact qz9); (case side4 => exact HC1.out); rintro e w' ⟨rfl, ⟨nd, rfl⟩⟩; (try first | exact ⟨rfl, _, World.drewN_drewN _ _ _⟩ | exact ⟨rfl, _, Eq.trans (World.drewN_drewN _ _ _) (congrArg (World.drewN _) (Nat.add_assoc _ _ _))⟩)) | (go_at_call 49; (with_reducible refine (spec_l4Small.calls k _ _ l2 true _ ?side1 ?side2 A11.out).mono ?_); (case side1 => exact qz51); (case side2 => exact HC2.out); rintro e w' ⟨rfl, ⟨nd, rfl⟩⟩; (try first | exact ⟨rfl, _, World.drewN_drewN _ _ _⟩ | exact ⟨rfl, _, Eq.trans (World.drewN_drewN _ _ _) (congrArg (World.drewN _) (Nat.add_assoc _ _ _))⟩)) | (go_at_call 49; (with_reducible refine (spec_l4Small.calls k _ _ l3 t482 _ ?side1 ?side2 A13.out).mono ?_); (case side1 => exact qz52); (case side2 => exact HC3.out); rintro e w' ⟨rfl, ⟨nd, rfl⟩⟩; (try first | exact ⟨rfl, _, World.drewN_drewN _ _ _⟩ | exact ⟨rfl, _, Eq.trans (World.drewN_drewN _ _ _) (congrArg (World.drewN _) (Nat.add_assoc _ _ _))⟩))); try go_wp2_with (first | (go_at_call 24; (with_reducible refine (spec_SumOf.calls k _ _ l0 _ _ l1 t480 _ ?side1 ?side2 ?side3 ?side4 A6.out).mono ?_); (case side1 => exact qz8); (case side2 => exact HC0.out); (case side3 => exact qz9); (case side4 => exact HC1.out); rintro e w' ⟨rfl, ⟨nd, rfl⟩⟩; (try first | exact ⟨rfl, _, World.drewN_drewN _ _ _⟩ | exact ⟨rfl, _, Eq.trans (World.drewN_drewN _ _ _) (congrArg (World.drewN _) (Nat.add_assoc _ _ _))⟩)) | (go_at_call 49; (with_reducible refine (spec_l4Small.calls k _ _ l2 true _ ?side1 ?side2 A11.out).mono ?_); (case side1 => exact qz51); (case side2 => exact HC2.out); rintro e w' ⟨rfl, ⟨nd, rfl⟩⟩; (try first | exact ⟨rfl, _, World.drewN_drewN _ _ _⟩ | exact ⟨rfl, _, Eq.trans (World.drewN_drewN _ _ _) (congrArg (World.drewN _) (Nat.add_assoc _ _ _))⟩)) | (go_at_call 49; (with_reducible refine (spec_l4Small.calls k _ _ l3 t482 _ ?side1 ?side2 A13.out).mono ?_); (case side1 => exact qz52); (case side2 => exact HC3.out); rintro e w' ⟨rfl, ⟨nd, rfl⟩⟩; (try first | exact ⟨rfl, _, World.drewN_drewN _ _ _⟩ | exact ⟨rfl, _, Eq.trans (World.drewN_drewN _ _ _) (congrArg (World.drewN _) (Nat.add_assoc _ _ _))⟩))))
  go_meet
  case rel => exact ⟨_, (!t482), qz5, H', ⟨by first | omega | exact Nat.le_refl _⟩, ⟨qz1⟩⟩
  }
  {
  replace c12 := Bool.eq_false_iff.mpr c12
  subst c12
  rw [if_neg (show ¬ (false = true) by decide)] at H
  have H' := aM H
  clear H
  go_wp2_with (first | (go_at_call 24; (with_reducible refine (spec_SumOf.calls k _ _ l0 _ _ l1 t480 _ ?side1 ?side2 ?side3 ?side4 A6.out).mono ?_); (case side1 => exact qz8); (case side2 => exact HC0.out); (case side3 => exact qz9); (case side4 => exact HC1.out); rintro e w' ⟨rfl, ⟨nd, rfl⟩⟩; (try first | exact ⟨rfl, _, World.drewN_drewN _ _ _⟩ | exact ⟨rfl, _, Eq.trans (World.drewN_drewN _ _ _) (congrArg (World.drewN _) (Nat.add_assoc _ _ _))⟩)) | (go_at_call 49; (with_reducible refine (spec_l4Small.calls k _ _ l2 false _ ?side1 ?side2 A11.out).mono ?_); (case side1 => exact qz51); (case side2 => exact HC2.out); rintro e w' ⟨rfl, ⟨nd, rfl⟩⟩; (try first | exact ⟨rfl, _, World.drewN_drewN _ _ _⟩ | exact ⟨rfl, _, Eq.trans (World.drewN_drewN _ _ _) (congrArg (World.drewN _) (Nat.add_assoc _ _ _))⟩)))
  repeat (go_quiet (first | (go_at_call 24; (with_reducible refine (spec_SumOf.calls k _ _ l0 _ _ l1 t480 _ ?side1 ?side2 ?side3 ?side4 A6.out).mono ?_); (case side1 => exact qz8); (case side2 => exact HC0.out); (case side3 => exact qz9); (case side4 => exact HC1.out); rintro e w' ⟨rfl, ⟨nd, rfl⟩⟩; (try first | exact ⟨rfl, _, World.drewN_drewN _ _ _⟩ | exact ⟨rfl, _, Eq.trans (World.drewN_drewN _ _ _) (congrArg (World.drewN _) (Nat.add_assoc _ _ _))⟩)) | (go_at_call 49; (with_reducible refine (spec_l4Small.calls k _ _ l2 false _ ?side1 ?side2 A11.out).mono ?_); (case side1 => exact qz51); (case side2 => exact HC2.out); rintro e w' ⟨rfl, ⟨nd, rfl⟩⟩; (try first | exact ⟨rfl, _, World.drewN_drewN _ _ _⟩ | exact ⟨rfl, _, Eq.trans (World.drewN_drewN _ _ _) (congrArg (World.drewN _) (Nat.add_assoc _ _ _))⟩))); try go_wp2_with (first | (go_at_call 24; (with_reducible refine (spec_SumOf.calls k _ _ l0 _ _ l1 t480 _ ?side1 ?side2 ?side3 ?side4 A6.out).mono ?_); (case side1 => exact qz8); (case side2 => exact HC0.out); (case side3 => exact qz9); (case side4 => exact HC1.out); rintro e w' ⟨rfl, ⟨nd, rfl⟩⟩; (try first | exact ⟨rfl, _, World.drewN_drewN _ _ _⟩ | exact ⟨rfl, _, Eq.trans (World.drewN_drewN _ _ _) (congrArg (World.drewN _) (Nat.add_assoc _ _ _))⟩)) | (go_at_call 49; (with_reducible refine (spec_l4Small.calls k _ _ l2 false _ ?side1 ?side2 A11.out).mono ?_); (case side1 => exact qz51); (case side2 => exact HC2.out); rintro e w' ⟨rfl, ⟨nd, rfl⟩⟩; (try first | exact ⟨rfl, _, World.drewN_drewN _ _ _⟩ | exact ⟨rfl, _, Eq.trans (World.drewN_drewN _ _ _) (congrArg (World.drewN _) (Nat.add_assoc _ _ _))⟩))))
  go_meet
  case rel => exact ⟨_, (true), qz5, H', ⟨by first | omega | exact Nat.le_refl _⟩, ⟨qz1⟩⟩
  }
  }
  {
  rw [if_neg c10] at H
  have c10b0 := beq_eq_false_iff_ne.mpr c10
  have c10b1 := bne_iff_ne.mpr c10
  have c10b2 : (l2.length == l0.length) = false := by first | simpa using c10 | (simp at c10 ⊢; omega)
  have H' := aM H
  clear H
  go_wp2_with (first | (go_at_call 24; (with_reducible refine (spec_SumOf.calls k _ _ l0 _ _ l1 t480 _ ?side1 ?side2 ?side3 ?side4 A6.out).mono ?_); (case side1 => exact qz8); (case side2 => exact HC0.out); (case side3 => exact qz9); (case side4 => exact HC1.out); rintro e w' ⟨rfl, ⟨nd, rfl⟩⟩; (try first | exact ⟨rfl, _, World.drewN_drewN _ _ _⟩ | exact ⟨rfl, _, Eq.trans (World.drewN_drewN _ _ _) (congrArg (World.drewN _) (Nat.add_assoc _ _ _))⟩)))
  repeat (go_quiet (first | (go_at_call 24; (with_reducible refine (spec_SumOf.calls k _ _ l0 _ _ l1 t480 _ ?side1 ?side2 ?side3 ?side4 A6.out).mono ?_); (case side1 => exact qz8); (case side2 => exact HC0.out); (case side3 => exact qz9); (case side4 => exact HC1.out); rintro e w' ⟨rfl, ⟨nd, rfl⟩⟩; (try first | exact ⟨rfl, _, World.drewN_drewN _ _ _⟩ | exact ⟨rfl, _, Eq.trans (World.drewN_drewN _ _ _) (congrArg (World.drewN _) (Nat.add_assoc _ _ _))⟩))); try go_wp2_with (first | (go_at_call 24; (with_reducible refine (spec_SumOf.calls k _ _ l0 _ _ l1 t480 _ ?side1 ?side2 ?side3 ?side4 A6.out).mono ?_); (case side1 => exact qz8); (case side2 => exact HC0.out); (case side3 => exact qz9); (case side4 => exact HC1.out); rintro e w' ⟨rfl, ⟨nd, rfl⟩⟩; (try first | exact ⟨rfl, _, World.drewN_drewN _ _ _⟩ | exact ⟨rfl, _, Eq.trans (World.drewN_drewN _ _ _) (congrArg (World.drewN _) (Nat.add_assoc _ _ _))⟩))))
  go_meet
  case rel => exact ⟨_, (true), qz5, H', ⟨by first | omega | exact Nat.le_refl _⟩, ⟨qz1⟩⟩
  }
  }
  }
  {
  rw [if_neg c8] at H
  have c8b0 := beq_eq_false_iff_ne.mpr c8
  have c8b1 := bne_iff_ne.mpr c8
  have c8b2 : ¬ (l0 = []) := fun h_ => c8 (by rw [h_]; rfl)
  by_cases c14 : (l2.length : Int) = (l0.length : Int)
  {
  rw [if_pos c14] at H
  have c14b0 := beq_iff_eq.mpr c14
  have c14b1 := bne_eq_false_iff_eq.mpr c14
  have c14b2 : (l2.length == l0.length) = true := by first | simpa using c14 | (simp at c14 ⊢; omega)
  clear c14
  replace H := Option.bind_eq_some_iff.mp H
  obtain ⟨t483, A150, H⟩ := H
  replace H : (if t483 = true then ((spec_l4Small.f k l3).bind fun t484 => (spec_Proves.j0 k l0 l1 l2 l3 (!t484))) else (spec_Proves.j0 k l0 l1 l2 l3 true)) = some r := H
  have A15 := aM A150
  clear A150
  by_cases c16 : t483 = true
  {
  subst c16
  rw [if_pos rfl] at H
  replace H := Option.bind_eq_some_iff.mp H
  obtain ⟨t484, A170, H⟩ := H
  replace H : (spec_Proves.j0 k l0 l1 l2 l3 (!t484)) = some r := H
  have A17 := aM A170
  clear A170
  have H' := aM H
  clear H
  go_wp2_with (first | (go_at_call 24; (with_reducible refine (spec_SumOf.calls k _ _ l0 _ _ l1 t480 _ ?side1 ?side2 ?side3 ?side4 A6.out).mono ?_); (case side1 => exact qz8); (case side2 => exact HC0.out); (case side3 => exact qz9); (case side4 => exact HC1.out); rintro e w' ⟨rfl, ⟨nd, rfl⟩⟩; (try first | exact ⟨rfl, _, World.drewN_drewN _ _ _⟩ | exact ⟨rfl, _, Eq.trans (World.drewN_drewN _ _ _) (congrArg (World.drewN _) (Nat.add_assoc _ _ _))⟩)) | (go_at_call 49; (with_reducible refine (spec_l4Small.calls k _ _ l2 true _ ?side1 ?side2 A15.out).mono ?_); (case side1 => exact qz51); (case side2 => exact HC2.out); rintro e w' ⟨rfl, ⟨nd, rfl⟩⟩; (try first | exact ⟨rfl, _, World.drewN_drewN _ _ _⟩ | exact ⟨rfl, _, Eq.trans (World.drewN_drewN _ _ _) (congrArg (World.drewN _) (Nat.add_assoc _ _ _))⟩)) | (go_at_call 49; (with_reducible refine (spec_l4Small.calls k _ _ l3 t484 _ ?side1 ?side2 A17.out).mono ?_); (case side1 => exact qz52); (case side2 => exact HC3.out); rintro e w' ⟨rfl, ⟨nd, rfl⟩⟩; (try first | exact ⟨rfl, _, World.drewN_drewN _ _ _⟩ | exact ⟨rfl, _, Eq.trans (World.drewN_drewN _ _ _) (congrArg (World.drewN _) (Nat.add_assoc _ _ _))⟩)))
  repeat (go_quiet (first | (go_at_call 24; (with_reducible refine (spec_SumOf.calls k _ _ l0 _ _ l1 t480 _ ?side1 ?side2 ?side3 ?side4 A6.out).mono ?_); (case side1 => exact qz8); (case side2 => exact HC0.out); (case side3 => exact qz9); (case side4 => exact HC1.out); rintro e w' ⟨rfl, ⟨nd, rfl⟩⟩; (try first | exact ⟨rfl, _, World.drewN_drewN _ _ _⟩ | exact ⟨rfl, _, Eq.trans (World.drewN_drewN _ _ _) (congrArg (World.drewN _) (Nat.add_assoc _ _ _))⟩)) | (go_at_call 49; (with_reducible refine (spec_l4Small.calls k _ _ l2 true _ ?side1 ?side2 A15.out).mono ?_); (case side1 => exact qz51); (case side2 => exact HC2.out); rintro e w' ⟨rfl, ⟨nd, rfl⟩⟩; (try first | exact ⟨rfl, _, World.drewN_drewN _ _ _⟩ | exact ⟨rfl, _, Eq.trans (World.drewN_drewN _ _ _) (congrArg (World.drewN _) (Nat.add_assoc _ _ _))⟩)) | (go_at_call 49; (with_reducible refine (spec_l4Small.calls k _ _ l3 t484 _ ?side1 ?side2 A17.out).mono ?_); (case side1 => exact qz52); (case side2 => exact HC3.out); rintro e w' ⟨rfl, ⟨nd, rfl⟩⟩; (try first | exact ⟨rfl, _, World.drewN_drewN _ _ _⟩ | exact ⟨rfl, _, Eq.trans (World.drewN_drewN _ _ _) (congrArg (World.drewN _) (Nat.add_assoc _ _ _))⟩))); try go_wp2_with (first | (go_at_call 24; (with_reducible refine (spec_SumOf.calls k _ _ l0 _ _ l1 t480 _ ?side1 ?side2 ?side3 ?side4 A6.out).mono ?_); (case side1 => exact qz8); (case side2 => exact HC0.out); (case side3 => exact qz9); (case side4 => exact HC1.out); rintro e w' ⟨rfl, ⟨nd, rfl⟩⟩; (try first | exact ⟨rfl, _, World.drewN_drewN _ _ _⟩ | exact ⟨rfl, _, Eq.trans (World.drewN_drewN _ _ _) (congrArg (World.drewN _) (Nat.add_assoc _ _ _))⟩)) | (go_at_call 49; (with_reducible refine (spec_l4Small.calls k _ _ l2 true _ ?side1 ?side2 A15.out).mono ?_); (case side1 => exact qz51); (case side2 => exact HC2.out); rintro e w' ⟨rfl, ⟨nd, rfl⟩⟩; (try first | exact ⟨rfl, _, World.drewN_drewN _ _ _⟩ | exact ⟨rfl, _, Eq.trans (World.drewN_drewN _ _ _) (congrArg (World.drewN _) (Nat.add_assoc _ _ _))⟩)) | (go_at_call 49; (with_reducible refine (spec_l4Small.calls k _ _ l3 t484 _ ?side1 ?side2 A17.out).mono ?_); (case side1 => exact qz52); (case side2 => exact HC3.out); rintro e w' ⟨rfl, ⟨nd, rfl⟩⟩; (try first | exact ⟨rfl, _, World.drewN_drewN _ _ _⟩ | exact ⟨rfl, _, Eq.trans (World.drewN_drewN _ _ _) (congrArg (World.drewN _) (Nat.add_assoc _ _ _))⟩))))
  go_meet
  case rel => exact ⟨_, (!t484), qz5, H', ⟨by first | omega | exact Nat.le_refl _⟩, ⟨qz1⟩⟩
  }
  {
  replace c16 := Bool.eq_false_iff.mpr c16
  subst c16
  rw [if_neg (show ¬ (false = true) by decide)] at H
  have H' := aM H
  clear H
  go_wp2_with (first | (go_at_call 24; (with_reducible refine (spec_SumOf.calls k _ _ l0 _ _ l1 t480 _ ?side1 ?side2 ?side3 ?side4 A6.out).mono ?_); (case side1 => exact qz8); (case side2 => exact HC0.out); (case side3 => exact qz9); (case side4 => exact HC1.out); rintro e w' ⟨rfl, ⟨nd, rfl⟩⟩; (try first | exact ⟨rfl, _, World.drewN_drewN _ _ _⟩ | exact ⟨rfl, _, Eq.trans (World.drewN_drewN _ _ _) (congrArg (World.drewN _) (Nat.add_assoc _ _ _))⟩)) | (go_at_call 49; (with_reducible refine (spec_l4Small.calls k _ _ l2 false _ ?side1 ?side2 A15.out).mono ?_); (case side1 => exact qz51); (case side2 => exact HC2.out); rintro e w' ⟨rfl, ⟨nd, rfl⟩⟩; (try first | exact ⟨rfl, _, World.drewN_drewN _ _ _⟩ | exact ⟨rfl, _, Eq.trans (World.drewN_drewN _ _ _) (congrArg (World.drewN _) (Nat.add_assoc _ _ _))⟩)))
  repeat (go_quiet (first | (go_at_call 24; (with_reducible refine (spec_SumOf.calls k _ _ l0 _ _ l1 t480 _ ?side1 ?side2 ?side3 ?side4 A6.out).mono ?_); (case side1 => exact qz8); (case side2 => exact HC0.out); (case side3 => exact qz9); (case side4 => exact HC1.out); rintro e w' ⟨rfl, ⟨nd, rfl⟩⟩; (try first | exact ⟨rfl, _, World.drewN_drewN _ _ _⟩ | exact ⟨rfl, _, Eq.trans (World.drewN_drewN _ _ _) (congrArg (World.drewN _) (Nat.add_assoc _ _ _))⟩)) | (go_at_call 49; (with_reducible refine (spec_l4Small.calls k _ _ l2 false _ ?side1 ?side2 A15.out).mono ?_); (case side1 => exact qz51); (case side2 => exact HC2.out); rintro e w' ⟨rfl, ⟨nd, rfl⟩⟩; (try first | exact ⟨rfl, _, World.drewN_drewN _ _ _⟩ | exact ⟨rfl, _, Eq.trans (World.drewN_drewN _ _ _) (congrArg (World.drewN _) (Nat.add_assoc _ _ _))⟩))); try go_wp2_with (first | (go_at_call 24; (with_reducible refine (spec_SumOf.calls k _ _ l0 _ _ l1 t480 _ ?side1 ?side2 ?side3 ?side4 A6.out).mono ?_); (case side1 => exact qz8); (case side2 => exact HC0.out); (case side3 => exact qz9); (case side4 => exact HC1.out); rintro e w' ⟨rfl, ⟨nd, rfl⟩⟩; (try first | exact ⟨rfl, _, World.drewN_drewN _ _ _⟩ | exact ⟨rfl, _, Eq.trans (World.drewN_drewN _ _ _) (congrArg (World.drewN _) (Nat.add_assoc _ _ _))⟩)) | (go_at_call 49; (with_reducible refine (spec_l4Small.calls k _ _ l2 false _ ?side1 ?side2 A15.out).mono ?_); (case side1 => exact qz51); (case side2 => exact HC2.out); rintro e w' ⟨rfl, ⟨nd, rfl⟩⟩; (try first | exact ⟨rfl, _, World.drewN_drewN _ _ _⟩ | exact ⟨rfl, _, Eq.trans (World.drewN_drewN _ _ _) (congrArg (World.drewN _) (Nat.add_assoc _ _ _))⟩))))
  go_meet
  case rel => exact ⟨_, (true), qz5, H', ⟨by first | omega | exact Nat.le_refl _⟩, ⟨qz1⟩⟩
  }
  }
  {
  rw [if_neg c14] at H
  have c14b0 := beq_eq_false_iff_ne.mpr c14
  have c14b1 := bne_iff_ne.mpr c14
  have c14b2 : (l2.length == l0.length) = false := by first | simpa using c14 | (simp at c14 ⊢; omega)
  have H' := aM H
  clear H
  go_wp2_with (first | (go_at_call 24; (with_reducible refine (spec_SumOf.calls k _ _ l0 _ _ l1 t480 _ ?side1 ?side2 ?side3 ?side4 A6.out).mono ?_); (case side1 => exact qz8); (case side2 => exact HC0.out); (case side3 => exact qz9); (case side4 => exact HC1.out); rintro e w' ⟨rfl, ⟨nd, rfl⟩⟩; (try first | exact ⟨rfl, _, World.drewN_drewN _ _ _⟩ | exact ⟨rfl, _, Eq.trans (World.drewN_drewN _ _ _) (congrArg (World.drewN _) (Nat.add_assoc _ _ _))⟩)))
  repeat (go_quiet (first | (go_at_call 24; (with_reducible refine (spec_SumOf.calls k _ _ l0 _ _ l1 t480 _ ?side1 ?side2 ?side3 ?side4 A6.out).mono ?_); (case side1 => exact qz8); (case side2 => exact HC0.out); (case side3 => exact qz9); (case side4 => exact HC1.out); rintro e w' ⟨rfl, ⟨nd, rfl⟩⟩; (try first | exact ⟨rfl, _, World.drewN_drewN _ _ _⟩ | exact ⟨rfl, _, Eq.trans (World.drewN_drewN _ _ _) (congrArg (World.drewN _) (Nat.add_assoc _ _ _))⟩))); try go_wp2_with (first | (go_at_call 24; (with_reducible refine (spec_SumOf.calls k _ _ l0 _ _ l1 t480 _ ?side1 ?side2 ?side3 ?side4 A6.out).mono ?_); (case side1 => exact qz8); (case side2 => exact HC0.out); (case side3 => exact qz9); (case side4 => exact HC1.out); rintro e w' ⟨rfl, ⟨nd, rfl⟩⟩; (try first | exact ⟨rfl, _, World.drewN_drewN _ _ _⟩ | exact ⟨rfl, _, Eq.trans (World.drewN_drewN _ _ _) (congrArg (World.drewN _) (Nat.add_assoc _ _ _))⟩))))
  go_meet
  case rel => exact ⟨_, (true), qz5, H', ⟨by first | omega | exact Nat.le_refl _⟩, ⟨qz1⟩⟩
  }
  }
  }
 case rest =>
  clear HC5
  try clear c1
  try clear c2
  try clear p2
  try clear c3
  try clear c7
  try clear c7b0
  try clear c7b1
  try clear c8
  try clear c8b0
  try clear c8b1
  try clear c8b2
  try clear c9
  try clear c9b0
  try clear c9b1
  try clear c10
  try clear c10b0
  try clear c10b1
  try clear c10b2
  try clear c12
  try clear c14
  try clear c14b0
  try clear c14b1
  try clear c14b2
  try clear c16
  obtain ⟨kq, x43_4, rfl, HA, HJ4, HB⟩ := hcut
  cases kq with
  | zero => exact absurd HA.out (by simp [spec_Proves.j0])
  | succ kj4 =>
   have H := HA.out
   clear HA
   simp only [spec_Proves.j0] at H
   by_cases c18 : x43_4 = true
   {
   subst c18
   rw [if_pos rfl] at H
   obtain rfl := Option.some.inj H
   simp only [Option.some.injEq, Prod.mk.injEq] at H
   obtain ⟨rfl⟩ := H
   go_wp2
   repeat (go_quiet (fail); try go_wp2)
   go_ret
   exact ⟨qzw, qz1⟩
   }
   {
   replace c18 := Bool.eq_false_iff.mpr c18
   subst c18
   rw [if_neg (show ¬ (false = true) by decide)] at H
   by_cases c19 : 0 ≤ (l3.length : Int)
   {
   rw [if_pos c19] at H
   have c19b0 := eq_true c19
   have c19b1 := decide_eq_true c19
   clear c19
   by_cases c20 : ((l3.length : Int) : Int).toNat ≤ 281474976710656
   {
   rw [if_pos c20] at H
   have c20b0 := eq_true c20
   have c20b1 := decide_eq_true c20
   clear c20
   obtain ⟨y485, hy485⟩ : ∃ y_ : List Bool, y_ = (List.replicate ((l3.length : Int) : Int).toNat false) := ⟨_, rfl⟩
   replace H : (spec_Proves.l0 kj4 l0 l1 l2 l3 y485 0) = some r := by first | (rw [hy485]; with_reducible exact H) | (have H2_ := (Option.bind_some _ _).symm.trans H; rw [hy485]; with_reducible exact H2_) | (have H2_ := (Option.bind_some _ _).symm.trans H; with_reducible exact H2_) | with_reducible exact H | (rw [hy485]; exact H) | exact H
   have Ny485 := aM hy485
   clear hy485
   have H' := aM H
   clear H
   go_wp2_with (first | ((with_reducible refine gate_dst (N := 46) rfl ?_); (try (refine gate_guard (by rfl) ?_; dsimp only)); refine Kd.R_make Kd.bool _ 4 rfl (N := 46) rfl 36 _ _ rfl (l3.length : Int) rfl rfl Try.underlying36 (.bool false) 1 info4 rfl (by decide) (by omega) false (ok := fun _ => True) (okp := fun _ => True) rfl (fun _ hk => hk) trivial (dt_) (Nat.le_trans (Nat.mul_le_mul_right _ (dt_ : (l3.length : Int).toNat ≤ 281474976710656)) (by omega)) (Below.refl _ _) (Nat.le_refl _) ?_; intro v486 w21 ho22 hb hg_ hnew_; clear hg_ hnew_; (first | rw [← Ny485.out] at ho22 | (simp only [Int.reduceToNat] at ho22; rw [← Ny485.out] at ho22)); have HO487 := aM (Kd.R_lower ho22 (below_size qz1)); replace HB := bS_ hb; clear hb ho22))
   repeat (go_quiet (first | ((with_reducible refine gate_dst (N := 46) rfl ?_); (try (refine gate_guard (by rfl) ?_; dsimp only)); refine Kd.R_make Kd.bool _ 4 rfl (N := 46) rfl 36 _ _ rfl (l3.length : Int) rfl rfl Try.underlying36 (.bool false) 1 info4 rfl (by decide) (by omega) false (ok := fun _ => True) (okp := fun _ => True) rfl (fun _ hk => hk) trivial (dt_) (Nat.le_trans (Nat.mul_le_mul_right _ (dt_ : (l3.length : Int).toNat ≤ 281474976710656)) (by omega)) (Below.refl _ _) (Nat.le_refl _) ?_; intro v486 w21 ho22 hb hg_ hnew_; clear hg_ hnew_; (first | rw [← Ny485.out] at ho22 | (simp only [Int.reduceToNat] at ho22; rw [← Ny485.out] at ho22)); have HO487 := aM (Kd.R_lower ho22 (below_size qz1)); replace HB := bS_ hb; clear hb ho22)); try go_wp2_with (first | ((with_reducible refine gate_dst (N := 46) rfl ?_); (try (refine gate_guard (by rfl) ?_; dsimp only)); refine Kd.R_make Kd.bool _ 4 rfl (N := 46) rfl 36 _ _ rfl (l3.length : Int) rfl rfl Try.underlying36 (.bool false) 1 info4 rfl (by decide) (by omega) false (ok := fun _ => True) (okp := fun _ => True) rfl (fun _ hk => hk) trivial (dt_) (Nat.le_trans (Nat.mul_le_mul_right _ (dt_ : (l3.length : Int).toNat ≤ 281474976710656)) (by omega)) (Below.refl _ _) (Nat.le_refl _) ?_; intro v486 w21 ho22 hb hg_ hnew_; clear hg_ hnew_; (first | rw [← Ny485.out] at ho22 | (simp only [Int.reduceToNat] at ho22; rw [← Ny485.out] at ho22)); have HO487 := aM (Kd.R_lower ho22 (below_size qz1)); replace HB := bS_ hb; clear hb ho22)))
   go_loopg [10] kj4 (fun kq v10 w' => ∃ (x9_2 : List Bool) (x10_2 : Int), v10 = .int .i64 x10_2 ∧ Aside0 (spec_Proves.l0 kq l0 l1 l2 l3 x9_2 x10_2 = some r) ∧ Aside0 (kq ≤ kj4) ∧ Aside0 (Kd.R Kd.bool 4 w' w.heap.size (fun _ => True) v486 x9_2) ∧ Aside0 (Below w.heap.size w w'))
   case atStart => exact ⟨(y485), (0), qz5, H', ⟨Nat.le_refl _⟩, ⟨rr_ HO487.out⟩, ⟨qz1⟩⟩
   case round =>
    clear H'
    try clear c1
    try clear c2
    try clear p2
    try clear c3
    try clear c7
    try clear c7b0
    try clear c7b1
    try clear c8
    try clear c8b0
    try clear c8b1
    try clear c8b2
    try clear c9
    try clear c9b0
    try clear c9b1
    try clear c10
    try clear c10b0
    try clear c10b1
    try clear c10b2
    try clear c12
    try clear c14
    try clear c14b0
    try clear c14b1
    try clear c14b2
    try clear c16
    try clear c18
    try clear c19
    try clear c19b0
    try clear c19b1
    try clear c20
    try clear c20b0
    try clear c20b1
    obtain ⟨x9_2, x10_2, rfl, HA, HK2, HO_9, HB⟩ := hrel
    cases gk with
    | zero => exact absurd HA.out (by simp [spec_Proves.l0])
    | succ k2 =>
     have H := HA.out
     clear HA
     simp only [spec_Proves.l0] at H
     by_cases c23 : x10_2 < (l0.length : Int)
     {
     rw [if_pos c23] at H
     have c23b0 := decide_eq_true c23
     clear c23
     by_cases c24 : 0 ≤ x10_2
     {
     rw [if_pos c24] at H
     have c24b0 := decide_eq_true c24
     clear c24
     by_cases c25 : ((rd_L1 l0 x10_2).length : Int) = (l3.length : Int)
     {
     rw [if_pos c25] at H
     have c25b0 := beq_iff_eq.mpr c25
     have c25b1 := bne_eq_false_iff_eq.mpr c25
     have c25b2 : ((rd_L1 l0 x10_2).length == l3.length) = true := by first | simpa using c25 | (simp at c25 ⊢; omega)
     clear c25
     have H' := aM H
     clear H
     have p488 : 0 ≤ (x10_2 : Int) := dt_
     have q488 : x10_2 < (l0.length : Int) := dt_
     obtain ⟨ad488, A488_0, c488_0, e488, hx488_0, hl488_0, hi488_0⟩ := at_L1 HR0.out x10_2 p488 q488
     cases e488
     replace hx488_0 := cB_ hx488_0
     have HR488_0 := aM hi488_0
     have HC488_0 := aM hl488_0
     clear hi488_0 hl488_0
     replace p488 := eq_true p488
     replace q488 := eq_true q488
     go_wp2
     repeat (go_quiet (fail); try go_wp2)
     go_loopg [11] k2 (fun kq v11 w' => ∃ (x9_3 : List Bool) (x11_3 : Int), v11 = .int .i64 x11_3 ∧ Aside0 (spec_Proves.l1 kq l0 l1 l2 l3 x9_3 x10_2 x11_3 = some r) ∧ Aside0 (kq ≤ k2) ∧ Aside0 (Kd.R Kd.bool 4 w' w.heap.size (fun _ => True) v486 x9_3) ∧ Aside0 (Below w.heap.size w w'))
     case atStart => exact ⟨(x9_2), (0), qz5, H', ⟨Nat.le_refl _⟩, ⟨rr_ HO_9.out⟩, ⟨qz1⟩⟩
     case round =>
      clear H'
      try clear c1
      try clear c2
      try clear p2
      try clear c3
      try clear c4
      try clear p4
      try clear q4
      try clear hx4
      try clear c7
      try clear c7b0
      try clear c7b1
      try clear c8
      try clear c8b0
      try clear c8b1
      try clear c8b2
      try clear c9
      try clear c9b0
      try clear c9b1
      try clear c10
      try clear c10b0
      try clear c10b1
      try clear c10b2
      try clear c12
      try clear c14
      try clear c14b0
      try clear c14b1
      try clear c14b2
      try clear c16
      try clear c18
      try clear c19
      try clear c19b0
      try clear c19b1
      try clear c20
      try clear c20b0
      try clear c20b1
      try clear c23
      try clear c23b0
      try clear c24
      try clear c24b0
      try clear c25
      try clear c25b0
      try clear c25b1
      try clear c25b2
      try clear hx488_0
      try clear p488
      try clear q488
      obtain ⟨x9_3, x11_3, rfl, HA, HK3, HO_9, HB⟩ := hrel
      cases gk with
      | zero => exact absurd HA.out (by simp [spec_Proves.l1])
      | succ k3 =>
       have H := HA.out
       clear HA
       simp only [spec_Proves.l1] at H
       by_cases c26 : x11_3 < (l3.length : Int)
       {
       rw [if_pos c26] at H
       have c26b0 := decide_eq_true c26
       clear c26
       by_cases c27 : 0 ≤ x10_2
       {
       rw [if_pos c27] at H
       have c27b0 := decide_eq_true c27
       clear c27
       by_cases c28 : x10_2 < (l2.length : Int)
       {
       rw [if_pos c28] at H
       have c28b0 := decide_eq_true c28
       clear c28
       by_cases c29 : 0 ≤ x11_3
       {
       rw [if_pos c29] at H
       have c29b0 := decide_eq_true c29
       clear c29
       by_cases c30 : x10_2 < (l0.length : Int)
       {
       rw [if_pos c30] at H
       have c30b0 := decide_eq_true c30
       clear c30
       by_cases c31 : x11_3 < ((rd_L1 l0 x10_2).length : Int)
       {
       rw [if_pos c31] at H
       have c31b0 := decide_eq_true c31
       clear c31
       by_cases c32 : (wrap64 ((rd l2 x10_2) + (rd l3 x11_3))) > (rd (rd_L1 l0 x10_2) x11_3)
       {
       rw [if_pos c32] at H
       have c32b0 := decide_eq_true c32
       clear c32
       obtain rfl := Option.some.inj H
       simp only [Option.some.injEq, Prod.mk.injEq] at H
       obtain ⟨rfl⟩ := H
       have p489 : 0 ≤ (x10_2 : Int) := dt_
       have q489 : x10_2 < (l2.length : Int) := dt_
       obtain ⟨ad489, e489, hx489_0⟩ := Kd.at_int HR2.out x10_2 p489 q489
       cases e489
       replace hx489_0 := cB_ hx489_0
       replace p489 := eq_true p489
       replace q489 := eq_true q489
       have p490 : 0 ≤ (x11_3 : Int) := dt_
       have q490 : x11_3 < (l3.length : Int) := dt_
       obtain ⟨ad490, e490, hx490_0⟩ := Kd.at_int HR3.out x11_3 p490 q490
       cases e490
       replace hx490_0 := cB_ hx490_0
       replace p490 := eq_true p490
       replace q490 := eq_true q490
       have p491 : 0 ≤ (x10_2 : Int) := dt_
       have q491 : x10_2 < (l0.length : Int) := dt_
       obtain ⟨ad491, A491_0, c491_0, e491, hx491_0, hl491_0, hi491_0⟩ := at_L1 HR0.out x10_2 p491 q491
       obtain rfl : ad488 = ad491 := (by injection e491)
       replace hx491_0 := cB_ hx491_0
       have HR491_0 := aM hi491_0
       have HC491_0 := aM hl491_0
       clear hi491_0 hl491_0
       replace p491 := eq_true p491
       replace q491 := eq_true q491
       have p492 : 0 ≤ (x11_3 : Int) := dt_
       have q492 : x11_3 < ((rd_L1 l0 x10_2).length : Int) := dt_
       obtain ⟨ad492, e492, hx492_0⟩ := Kd.at_int HR491_0.out x11_3 p492 q492
       cases e492
       replace hx492_0 := cB_ hx492_0
       replace p492 := eq_true p492
       replace q492 := eq_true q492
       go_wp2
       repeat (go_quiet (fail); try go_wp2)
       go_ret
       exact ⟨qzw, qz1⟩
       }
       {
       rw [if_neg c32] at H
       have c32b0 := decide_eq_false c32
       clear c32
       by_cases c33 : x10_2 < (l1.length : Int)
       {
       rw [if_pos c33] at H
       have c33b0 := decide_eq_true c33
       clear c33
       by_cases c34 : (rd l1 x10_2) = x11_3
       {
       rw [if_pos c34] at H
       have c34b0 := beq_iff_eq.mpr c34
       have c34b1 := bne_eq_false_iff_eq.mpr c34
       clear c34
       by_cases c35 : (wrap64 ((rd l2 x10_2) + (rd l3 x11_3))) = (rd (rd_L1 l0 x10_2) x11_3)
       {
       rw [if_pos c35] at H
       have c35b0 := beq_iff_eq.mpr c35
       have c35b1 := bne_eq_false_iff_eq.mpr c35
       clear c35
       by_cases c36 : x11_3 < (x9_3.length : Int)
       {
       rw [if_pos c36] at H
       have c36b0 := decide_eq_true c36
       clear c36
       obtain ⟨bq37, hbq37⟩ : ∃ b_ : Bool, b_ = (rdOf false x9_3 x11_3) := ⟨_, rfl⟩
       replace H : (if bq37 = true then (spec_Proves.l1 k3 l0 l1 l2 l3 (x9_3.set (x11_3 : Int).toNat true) x10_2 (wrap64 (x11_3 + 1))) else (spec_Proves.l1 k3 l0 l1 l2 l3 (x9_3.set (x11_3 : Int).toNat ((rd l1 x10_2) == x11_3)) x10_2 (wrap64 (x11_3 + 1)))) = some r := by rw [← hbq37] at H; exact H
       have Nbq37 := aM hbq37
       clear hbq37
       by_cases c38 : bq37 = true
       {
       subst c38
       rw [if_pos rfl] at H
       obtain ⟨y499, hy499⟩ : ∃ y_ : List Bool, y_ = (x9_3.set (x11_3 : Int).toNat true) := ⟨_, rfl⟩
       replace H : (spec_Proves.l1 k3 l0 l1 l2 l3 y499 x10_2 (wrap64 (x11_3 + 1))) = some r := by first | (rw [hy499]; with_reducible exact H) | (have H2_ := (Option.bind_some _ _).symm.trans H; rw [hy499]; with_reducible exact H2_) | (have H2_ := (Option.bind_some _ _).symm.trans H; with_reducible exact H2_) | with_reducible exact H | (rw [hy499]; exact H) | exact H
       have Ny499 := aM hy499
       clear hy499
       have H' := aM H
       clear H
       have p489 : 0 ≤ (x10_2 : Int) := dt_
       have q489 : x10_2 < (l2.length : Int) := dt_
       obtain ⟨ad489, e489, hx489_0⟩ := Kd.at_int HR2.out x10_2 p489 q489
       cases e489
       replace hx489_0 := cB_ hx489_0
       replace p489 := eq_true p489
       replace q489 := eq_true q489
       have p490 : 0 ≤ (x11_3 : Int) := dt_
       have q490 : x11_3 < (l3.length : Int) := dt_
       obtain ⟨ad490, e490, hx490_0⟩ := Kd.at_int HR3.out x11_3 p490 q490
       cases e490
       replace hx490_0 := cB_ hx490_0
       replace p490 := eq_true p490
       replace q490 := eq_true q490
       have p491 : 0 ≤ (x10_2 : Int) := dt_
       have q491 : x10_2 < (l0.length : Int) := dt_
       obtain ⟨ad491, A491_0, c491_0, e491, hx491_0, hl491_0, hi491_0⟩ := at_L1 HR0.out x10_2 p491 q491
       obtain rfl : ad488 = ad491 := (by injection e491)
       replace hx491_0 := cB_ hx491_0
       have HR491_0 := aM hi491_0
       have HC491_0 := aM hl491_0
       clear hi491_0 hl491_0
       replace p491 := eq_true p491
       replace q491 := eq_true q491
       have p492 : 0 ≤ (x11_3 : Int) := dt_
       have q492 : x11_3 < ((rd_L1 l0 x10_2).length : Int) := dt_
       obtain ⟨ad492, e492, hx492_0⟩ := Kd.at_int HR491_0.out x11_3 p492 q492
       cases e492
       replace hx492_0 := cB_ hx492_0
       replace p492 := eq_true p492
       replace q492 := eq_true q492
       have p493 : 0 ≤ (x10_2 : Int) := dt_
       have q493 : x10_2 < (l1.length : Int) := dt_
       obtain ⟨ad493, e493, hx493_0⟩ := Kd.at_int HR1.out x10_2 p493 q493
       cases e493
       replace hx493_0 := cB_ hx493_0
       replace p493 := eq_true p493
       replace q493 := eq_true q493
       have p494 : 0 ≤ (x10_2 : Int) := dt_
       have q494 : x10_2 < (l2.length : Int) := dt_
       obtain ⟨ad494, e494, hx494_0⟩ := Kd.at_int HR2.out x10_2 p494 q494
       obtain rfl : ad489 = ad494 := (by injection e494)
       replace hx494_0 := cB_ hx494_0
       replace p494 := eq_true p494
       replace q494 := eq_true q494
       have p495 : 0 ≤ (x11_3 : Int) := dt_
       have q495 : x11_3 < (l3.length : Int) := dt_
       obtain ⟨ad495, e495, hx495_0⟩ := Kd.at_int HR3.out x11_3 p495 q495
       obtain rfl : ad490 = ad495 := (by injection e495)
       replace hx495_0 := cB_ hx495_0
       replace p495 := eq_true p495
       replace q495 := eq_true q495
       have p496 : 0 ≤ (x10_2 : Int) := dt_
       have q496 : x10_2 < (l0.length : Int) := dt_
       obtain ⟨ad496, A496_0, c496_0, e496, hx496_0, hl496_0, hi496_0⟩ := at_L1 HR0.out x10_2 p496 q496
       obtain rfl : ad488 = ad496 := (by injection e496)
       replace hx496_0 := cB_ hx496_0
       have HR496_0 := aM hi496_0
       have HC496_0 := aM hl496_0
       clear hi496_0 hl496_0
       replace p496 := eq_true p496
       replace q496 := eq_true q496
       have ea_ := Option.some.inj (hx491_0.symm.trans hx496_0)
       injection ea_ with ea_ en_ ec_
       subst ea_
       subst ec_
       clear en_
       have p497 : 0 ≤ (x11_3 : Int) := dt_
       have q497 : x11_3 < ((rd_L1 l0 x10_2).length : Int) := dt_
       obtain ⟨ad497, e497, hx497_0⟩ := Kd.at_int HR496_0.out x11_3 p497 q497
       cases e497
       replace hx497_0 := cB_ hx497_0
       replace p497 := eq_true p497
       replace q497 := eq_true q497
       obtain ⟨Ao40, co40, eo40⟩ := Kd.R_slice HO_9.out
       subst eo40
       have p498 : 0 ≤ (x11_3 : Int) := dt_
       have q498 : x11_3 < (x9_3.length : Int) := dt_
       obtain ⟨ad498, e498, hx498_0⟩ := Kd.at_bool (Kd.R_reads' HO_9.out).2.2 x11_3 p498 q498
       (try rw [← Nbq37.out] at hx498_0)
       cases e498
       replace p498 := eq_true p498
       replace q498 := eq_true q498
       have p39 : 0 ≤ (x11_3 : Int) := dt_
       have q39 : (x11_3 : Int) < ((x9_3.length : Int) : Int) := dt_
       obtain ⟨go39, co39, eo39, gb39, gl39, cl39, HG39⟩ := Kd.R_form HO_9.out (by omega)
       (first | cases eo39 | (injection eo39 with ea_ en_ ec_; (first | subst ea_ | (injection ea_ with ea_; subst ea_)); subst ec_; clear en_))
       have GB39 := aM gb39
       have GG39 := aM HG39
       clear gb39 gl39 HG39
       (first | simp only [add_plain] at hx498_0 | skip)
       obtain ⟨hx39_0, hf39_0⟩ := Kd.R_celln false HO_9.out (x11_3 : Int) p39 q39
       replace p39 := eq_true p39
       replace q39 := eq_true q39
       obtain ⟨hy41_, hz41_⟩ := Kd.R_celln false HO_9.out (x11_3 : Int) (dt_) (dt_)
       have HP41 := Kd.R_putg HO_9.out (x11_3 : Int) true
       go_wp2_with (first | ((with_reducible refine gate_store (t := 4) (p := 125) rfl ?_); (try (rw [drewN_self wr]; generalize hq_ : World.drewN wr _ = wr; replace HO_9 := aM (Kd.R_at hq_ HO_9.out); replace HB := aM (below_at hq_ HB.out); clear hq_; (try (obtain ⟨hy41_, hz41_⟩ := Kd.R_celln false HO_9.out (x11_3 : Int) (dt_) (dt_))); (try (have HP41 := Kd.R_putg HO_9.out (x11_3 : Int) true)))); refine store_event (t := 4) (p := 125) (v := ?vo_w42) (w1 := (wr.setCell ⟨go39, (x11_3 : Int).toNat, none⟩ (.bool true))) ?hg ?ho ?hn ?hr ?_; (case ho => rfl); (case hg => rfl); (case hn => rfl); (case hr => exact qz11); intro w42 hw; have hg : wr.grownBy w42 (some go39) := (by rw [hw]; exact HP41.2); have hp_ : Kd.R Kd.bool 4 w42 w.heap.size (fun _ => True) (.slice (some ⟨go39, 0, none⟩) x9_3.length co40) y499 := (by rw [hw, Ny499.out]; exact HP41.1); clear HP41; replace HO_9 := aM (hp_); replace HB := aM ((by rw [hw]; exact below_set (HB.out) GB39.out : Below w.heap.size w w42)); clear hg hw hp_))
       repeat (go_quiet (first | ((with_reducible refine gate_store (t := 4) (p := 125) rfl ?_); (try (rw [drewN_self wr]; generalize hq_ : World.drewN wr _ = wr; replace HO_9 := aM (Kd.R_at hq_ HO_9.out); replace HB := aM (below_at hq_ HB.out); clear hq_; (try (obtain ⟨hy41_, hz41_⟩ := Kd.R_celln false HO_9.out (x11_3 : Int) (dt_) (dt_))); (try (have HP41 := Kd.R_putg HO_9.out (x11_3 : Int) true)))); refine store_event (t := 4) (p := 125) (v := ?vo_w42) (w1 := (wr.setCell ⟨go39, (x11_3 : Int).toNat, none⟩ (.bool true))) ?hg ?ho ?hn ?hr ?_; (case ho => rfl); (case hg => rfl); (case hn => rfl); (case hr => exact qz11); intro w42 hw; have hg : wr.grownBy w42 (some go39) := (by rw [hw]; exact HP41.2); have hp_ : Kd.R Kd.bool 4 w42 w.heap.size (fun _ => True) (.slice (some ⟨go39, 0, none⟩) x9_3.length co40) y499 := (by rw [hw, Ny499.out]; exact HP41.1); clear HP41; replace HO_9 := aM (hp_); replace HB := aM ((by rw [hw]; exact below_set (HB.out) GB39.out : Below w.heap.size w w42)); clear hg hw hp_)); try go_wp2_with (first | ((with_reducible refine gate_store (t := 4) (p := 125) rfl ?_); (try (rw [drewN_self wr]; generalize hq_ : World.drewN wr _ = wr; replace HO_9 := aM (Kd.R_at hq_ HO_9.out); replace HB := aM (below_at hq_ HB.out); clear hq_; (try (obtain ⟨hy41_, hz41_⟩ := Kd.R_celln false HO_9.out (x11_3 : Int) (dt_) (dt_))); (try (have HP41 := Kd.R_putg HO_9.out (x11_3 : Int) true)))); refine store_event (t := 4) (p := 125) (v := ?vo_w42) (w1 := (wr.setCell ⟨go39, (x11_3 : Int).toNat, none⟩ (.bool true))) ?hg ?ho ?hn ?hr ?_; (case ho => rfl); (case hg => rfl); (case hn => rfl); (case hr => exact qz11); intro w42 hw; have hg : wr.grownBy w42 (some go39) := (by rw [hw]; exact HP41.2); have hp_ : Kd.R Kd.bool 4 w42 w.heap.size (fun _ => True) (.slice (some ⟨go39, 0, none⟩) x9_3.length co40) y499 := (by rw [hw, Ny499.out]; exact HP41.1); clear HP41; replace HO_9 := aM (hp_); replace HB := aM ((by rw [hw]; exact below_set (HB.out) GB39.out : Below w.heap.size w w42)); clear hg hw hp_)))
       go_roundg k3
       case measure => have := HJ4.out; have := HK2.out; have := HK3.out; omega
       case rel => exact ⟨(y499), (wrap64 (x11_3 + 1)), qz5, H', ⟨by have := HJ4.out; have := HK2.out; have := HK3.out; omega⟩, ⟨rm_ HO_9.out⟩, ⟨qz1⟩⟩
       }
       {
       replace c38 := Bool.eq_false_iff.mpr c38
       subst c38
       rw [if_neg (show ¬ (false = true) by decide)] at H
       obtain ⟨y501, hy501⟩ : ∃ y_ : List Bool, y_ = (x9_3.set (x11_3 : Int).toNat ((rd l1 x10_2) == x11_3)) := ⟨_, rfl⟩
       replace H : (spec_Proves.l1 k3 l0 l1 l2 l3 y501 x10_2 (wrap64 (x11_3 + 1))) = some r := by first | (rw [hy501]; with_reducible exact H) | (have H2_ := (Option.bind_some _ _).symm.trans H; rw [hy501]; with_reducible exact H2_) | (have H2_ := (Option.bind_some _ _).symm.trans H; with_reducible exact H2_) | with_reducible exact H | (rw [hy501]; exact H) | exact H
       have Ny501 := aM hy501
       clear hy501
       have H' := aM H
       clear H
       have p489 : 0 ≤ (x10_2 : Int) := dt_
       have q489 : x10_2 < (l2.length : Int) := dt_
       obtain ⟨ad489, e489, hx489_0⟩ := Kd.at_int HR2.out x10_2 p489 q489
       cases e489
       replace hx489_0 := cB_ hx489_0
       replace p489 := eq_true p489
       replace q489 := eq_true q489
       have p490 : 0 ≤ (x11_3 : Int) := dt_
       have q490 : x11_3 < (l3.length : Int) := dt_
       obtain ⟨ad490, e490, hx490_0⟩ := Kd.at_int HR3.out x11_3 p490 q490
       cases e490
       replace hx490_0 := cB_ hx490_0
       replace p490 := eq_true p490
       replace q490 := eq_true q490
       have p491 : 0 ≤ (x10_2 : Int) := dt_
       have q491 : x10_2 < (l0.length : Int) := dt_
       obtain ⟨ad491, A491_0, c491_0, e491, hx491_0, hl491_0, hi491_0⟩ := at_L1 HR0.out x10_2 p491 q491
       obtain rfl : ad488 = ad491 := (by injection e491)
       replace hx491_0 := cB_ hx491_0
       have HR491_0 := aM hi491_0
       have HC491_0 := aM hl491_0
       clear hi491_0 hl491_0
       replace p491 := eq_true p491
       replace q491 := eq_true q491
       have p492 : 0 ≤ (x11_3 : Int) := dt_
       have q492 : x11_3 < ((rd_L1 l0 x10_2).length : Int) := dt_
       obtain ⟨ad492, e492, hx492_0⟩ := Kd.at_int HR491_0.out x11_3 p492 q492
       cases e492
       replace hx492_0 := cB_ hx492_0
       replace p492 := eq_true p492
       replace q492 := eq_true q492
       have p493 : 0 ≤ (x10_2 : Int) := dt_
       have q493 : x10_2 < (l1.length : Int) := dt_
       obtain ⟨ad493, e493, hx493_0⟩ := Kd.at_int HR1.out x10_2 p493 q493
       cases e493
       replace hx493_0 := cB_ hx493_0
       replace p493 := eq_true p493
       replace q493 := eq_true q493
       have p494 : 0 ≤ (x10_2 : Int) := dt_
       have q494 : x10_2 < (l2.length : Int) := dt_
       obtain ⟨ad494, e494, hx494_0⟩ := Kd.at_int HR2.out x10_2 p494 q494
       obtain rfl : ad489 = ad494 := (by injection e494)
       replace hx494_0 := cB_ hx494_0
       replace p494 := eq_true p494
       replace q494 := eq_true q494
       have p495 : 0 ≤ (x11_3 : Int) := dt_
       have q495 : x11_3 < (l3.length : Int) := dt_
       obtain ⟨ad495, e495, hx495_0⟩ := Kd.at_int HR3.out x11_3 p495 q495
       obtain rfl : ad490 = ad495 := (by injection e495)
       replace hx495_0 := cB_ hx495_0
       replace p495 := eq_true p495
       replace q495 := eq_true q495
       have p496 : 0 ≤ (x10_2 : Int) := dt_
       have q496 : x10_2 < (l0.length : Int) := dt_
       obtain ⟨ad496, A496_0, c496_0, e496, hx496_0, hl496_0, hi496_0⟩ := at_L1 HR0.out x10_2 p496 q496
       obtain rfl : ad488 = ad496 := (by injection e496)
       replace hx496_0 := cB_ hx496_0
       have HR496_0 := aM hi496_0
       have HC496_0 := aM hl496_0
       clear hi496_0 hl496_0
       replace p496 := eq_true p496
       replace q496 := eq_true q496
       have ea_ := Option.some.inj (hx491_0.symm.trans hx496_0)
       injection ea_ with ea_ en_ ec_
       subst ea_
       subst ec_
       clear en_
       have p497 : 0 ≤ (x11_3 : Int) := dt_
       have q497 : x11_3 < ((rd_L1 l0 x10_2).length : Int) := dt_
       obtain ⟨ad497, e497, hx497_0⟩ := Kd.at_int HR496_0.out x11_3 p497 q497
       cases e497
       replace hx497_0 := cB_ hx497_0
       replace p497 := eq_true p497
       replace q497 := eq_true q497
       obtain ⟨Ao44, co44, eo44⟩ := Kd.R_slice HO_9.out
       subst eo44
       have p498 : 0 ≤ (x11_3 : Int) := dt_
       have q498 : x11_3 < (x9_3.length : Int) := dt_
       obtain ⟨ad498, e498, hx498_0⟩ := Kd.at_bool (Kd.R_reads' HO_9.out).2.2 x11_3 p498 q498
       (try rw [← Nbq37.out] at hx498_0)
       cases e498
       replace p498 := eq_true p498
       replace q498 := eq_true q498
       have p500 : 0 ≤ (x10_2 : Int) := dt_
       have q500 : x10_2 < (l1.length : Int) := dt_
       obtain ⟨ad500, e500, hx500_0⟩ := Kd.at_int HR1.out x10_2 p500 q500
       obtain rfl : ad493 = ad500 := (by injection e500)
       replace hx500_0 := cB_ hx500_0
       replace p500 := eq_true p500
       replace q500 := eq_true q500
       have p43 : 0 ≤ (x11_3 : Int) := dt_
       have q43 : (x11_3 : Int) < ((x9_3.length : Int) : Int) := dt_
       obtain ⟨go43, co43, eo43, gb43, gl43, cl43, HG43⟩ := Kd.R_form HO_9.out (by omega)
       (first | cases eo43 | (injection eo43 with ea_ en_ ec_; (first | subst ea_ | (injection ea_ with ea_; subst ea_)); subst ec_; clear en_))
       have GB43 := aM gb43
       have GG43 := aM HG43
       clear gb43 gl43 HG43
       (first | simp only [add_plain] at hx498_0 | skip)
       obtain ⟨hx43_0, hf43_0⟩ := Kd.R_celln false HO_9.out (x11_3 : Int) p43 q43
       replace p43 := eq_true p43
       replace q43 := eq_true q43
       obtain ⟨hy45_, hz45_⟩ := Kd.R_celln false HO_9.out (x11_3 : Int) (dt_) (dt_)
       have HP45 := Kd.R_putg HO_9.out (x11_3 : Int) ((rd l1 x10_2) == x11_3)
       go_wp2_with (first | ((with_reducible refine gate_store (t := 4) (p := 125) rfl ?_); (try (rw [drewN_self wr]; generalize hq_ : World.drewN wr _ = wr; replace HO_9 := aM (Kd.R_at hq_ HO_9.out); replace HB := aM (below_at hq_ HB.out); clear hq_; (try (obtain ⟨hy45_, hz45_⟩ := Kd.R_celln false HO_9.out (x11_3 : Int) (dt_) (dt_))); (try (have HP45 := Kd.R_putg HO_9.out (x11_3 : Int) ((rd l1 x10_2) == x11_3))))); refine store_event (t := 4) (p := 125) (v := ?vo_w46) (w1 := (wr.setCell ⟨go43, (x11_3 : Int).toNat, none⟩ (.bool ((rd l1 x10_2) == x11_3)))) ?hg ?ho ?hn ?hr ?_; (case ho => rfl); (case hg => rfl); (case hn => rfl); (case hr => exact qz11); intro w46 hw; have hg : wr.grownBy w46 (some go43) := (by rw [hw]; exact HP45.2); have hp_ : Kd.R Kd.bool 4 w46 w.heap.size (fun _ => True) (.slice (some ⟨go43, 0, none⟩) x9_3.length co44) y501 := (by rw [hw, Ny501.out]; exact HP45.1); clear HP45; replace HO_9 := aM (hp_); replace HB := aM ((by rw [hw]; exact below_set (HB.out) GB43.out : Below w.heap.size w w46)); clear hg hw hp_))
       repeat (go_quiet (first | ((with_reducible refine gate_store (t := 4) (p := 125) rfl ?_); (try (rw [drewN_self wr]; generalize hq_ : World.drewN wr _ = wr; replace HO_9 := aM (Kd.R_at hq_ HO_9.out); replace HB := aM (below_at hq_ HB.out); clear hq_; (try (obtain ⟨hy45_, hz45_⟩ := Kd.R_celln false HO_9.out (x11_3 : Int) (dt_) (dt_))); (try (have HP45 := Kd.R_putg HO_9.out (x11_3 : Int) ((rd l1 x10_2) == x11_3))))); refine store_event (t := 4) (p := 125) (v := ?vo_w46) (w1 := (wr.setCell ⟨go43, (x11_3 : Int).toNat, none⟩ (.bool ((rd l1 x10_2) == x11_3)))) ?hg ?ho ?hn ?hr ?_; (case ho => rfl); (case hg => rfl); (case hn => rfl); (case hr => exact qz11); intro w46 hw; have hg : wr.grownBy w46 (some go43) := (by rw [hw]; exact HP45.2); have hp_ : Kd.R Kd.bool 4 w46 w.heap.size (fun _ => True) (.slice (some ⟨go43, 0, none⟩) x9_3.length co44) y501 := (by rw [hw, Ny501.out]; exact HP45.1); clear HP45; replace HO_9 := aM (hp_); replace HB := aM ((by rw [hw]; exact below_set (HB.out) GB43.out : Below w.heap.size w w46)); clear hg hw hp_)); try go_wp2_with (first | ((with_reducible refine gate_store (t := 4) (p := 125) rfl ?_); (try (rw [drewN_self wr]; generalize hq_ : World.drewN wr _ = wr; replace HO_9 := aM (Kd.R_at hq_ HO_9.out); replace HB := aM (below_at hq_ HB.out); clear hq_; (try (obtain ⟨hy45_, hz45_⟩ := Kd.R_celln false HO_9.out (x11_3 : Int) (dt_) (dt_))); (try (have HP45 := Kd.R_putg HO_9.out (x11_3 : Int) ((rd l1 x10_2) == x11_3))))); refine store_event (t := 4) (p := 125) (v := ?vo_w46) (w1 := (wr.setCell ⟨go43, (x11_3 : Int).toNat, none⟩ (.bool ((rd l1 x10_2) == x11_3)))) ?hg ?ho ?hn ?hr ?_; (case ho => rfl); (case hg => rfl); (case hn => rfl); (case hr => exact qz11); intro w46 hw; have hg : wr.grownBy w46 (some go43) := (by rw [hw]; exact HP45.2); have hp_ : Kd.R Kd.bool 4 w46 w.heap.size (fun _ => True) (.slice (some ⟨go43, 0, none⟩) x9_3.length co44) y501 := (by rw [hw, Ny501.out]; exact HP45.1); clear HP45; replace HO_9 := aM (hp_); replace HB := aM ((by rw [hw]; exact below_set (HB.out) GB43.out : Below w.heap.size w w46)); clear hg hw hp_)))
       go_roundg k3
       case measure => have := HJ4.out; have := HK2.out; have := HK3.out; omega
       case rel => exact ⟨(y501), (wrap64 (x11_3 + 1)), qz5, H', ⟨by have := HJ4.out; have := HK2.out; have := HK3.out; omega⟩, ⟨rm_ HO_9.out⟩, ⟨qz1⟩⟩
       }
       }
       {
       exact an_ c36 H
       }
       }
       {
       rw [if_neg c35] at H
       have c35b0 := beq_eq_false_iff_ne.mpr c35
       have c35b1 := bne_iff_ne.mpr c35
       obtain rfl := Option.some.inj H
       simp only [Option.some.injEq, Prod.mk.injEq] at H
       obtain ⟨rfl⟩ := H
       have p489 : 0 ≤ (x10_2 : Int) := dt_
       have q489 : x10_2 < (l2.length : Int) := dt_
       obtain ⟨ad489, e489, hx489_0⟩ := Kd.at_int HR2.out x10_2 p489 q489
       cases e489
       replace hx489_0 := cB_ hx489_0
       replace p489 := eq_true p489
       replace q489 := eq_true q489
       have p490 : 0 ≤ (x11_3 : Int) := dt_
       have q490 : x11_3 < (l3.length : Int) := dt_
       obtain ⟨ad490, e490, hx490_0⟩ := Kd.at_int HR3.out x11_3 p490 q490
       cases e490
       replace hx490_0 := cB_ hx490_0
       replace p490 := eq_true p490
       replace q490 := eq_true q490
       have p491 : 0 ≤ (x10_2 : Int) := dt_
       have q491 : x10_2 < (l0.length : Int) := dt_
       obtain ⟨ad491, A491_0, c491_0, e491, hx491_0, hl491_0, hi491_0⟩ := at_L1 HR0.out x10_2 p491 q491
       obtain rfl : ad488 = ad491 := (by injection e491)
       replace hx491_0 := cB_ hx491_0
       have HR491_0 := aM hi491_0
       have HC491_0 := aM hl491_0
       clear hi491_0 hl491_0
       replace p491 := eq_true p491
       replace q491 := eq_true q491
       have p492 : 0 ≤ (x11_3 : Int) := dt_
       have q492 : x11_3 < ((rd_L1 l0 x10_2).length : Int) := dt_
       obtain ⟨ad492, e492, hx492_0⟩ := Kd.at_int HR491_0.out x11_3 p492 q492
       cases e492
       replace hx492_0 := cB_ hx492_0
       replace p492 := eq_true p492
       replace q492 := eq_true q492
       have p493 : 0 ≤ (x10_2 : Int) := dt_
       have q493 : x10_2 < (l1.length : Int) := dt_
       obtain ⟨ad493, e493, hx493_0⟩ := Kd.at_int HR1.out x10_2 p493 q493
       cases e493
       replace hx493_0 := cB_ hx493_0
       replace p493 := eq_true p493
       replace q493 := eq_true q493
       have p494 : 0 ≤ (x10_2 : Int) := dt_
       have q494 : x10_2 < (l2.length : Int) := dt_
       obtain ⟨ad494, e494, hx494_0⟩ := Kd.at_int HR2.out x10_2 p494 q494
       obtain rfl : ad489 = ad494 := (by injection e494)
       replace hx494_0 := cB_ hx494_0
       replace p494 := eq_true p494
       replace q494 := eq_true q494
       have p495 : 0 ≤ (x11_3 : Int) := dt_
       have q495 : x11_3 < (l3.length : Int) := dt_
       obtain ⟨ad495, e495, hx495_0⟩ := Kd.at_int HR3.out x11_3 p495 q495
       obtain rfl : ad490 = ad495 := (by injection e495)
       replace hx495_0 := cB_ hx495_0
       replace p495 := eq_true p495
       replace q495 := eq_true q495
       have p496 : 0 ≤ (x10_2 : Int) := dt_
       have q496 : x10_2 < (l0.length : Int) := dt_
       obtain ⟨ad496, A496_0, c496_0, e496, hx496_0, hl496_0, hi496_0⟩ := at_L1 HR0.out x10_2 p496 q496
       obtain rfl : ad488 = ad496 := (by injection e496)
       replace hx496_0 := cB_ hx496_0
       have HR496_0 := aM hi496_0
       have HC496_0 := aM hl496_0
       clear hi496_0 hl496_0
       replace p496 := eq_true p496
       replace q496 := eq_true q496
       have ea_ := Option.some.inj (hx491_0.symm.trans hx496_0)
       injection ea_ with ea_ en_ ec_
       subst ea_
       subst ec_
       clear en_
       have p497 : 0 ≤ (x11_3 : Int) := dt_
       have q497 : x11_3 < ((rd_L1 l0 x10_2).length : Int) := dt_
       obtain ⟨ad497, e497, hx497_0⟩ := Kd.at_int HR496_0.out x11_3 p497 q497
       cases e497
       replace hx497_0 := cB_ hx497_0
       replace p497 := eq_true p497
       replace q497 := eq_true q497
       go_wp2
       repeat (go_quiet (fail); try go_wp2)
       go_ret
       exact ⟨qzw, qz1⟩
       }
       }
       {
       rw [if_neg c34] at H
       have c34b0 := beq_eq_false_iff_ne.mpr c34
       have c34b1 := bne_iff_ne.mpr c34
       by_cases c47 : x11_3 < (x9_3.length : Int)
       {
       rw [if_pos c47] at H
       have c47b0 := decide_eq_true c47
       clear c47
       obtain ⟨bq48, hbq48⟩ : ∃ b_ : Bool, b_ = (rdOf false x9_3 x11_3) := ⟨_, rfl⟩
       replace H : (if bq48 = true then (spec_Proves.l1 k3 l0 l1 l2 l3 (x9_3.set (x11_3 : Int).toNat true) x10_2 (wrap64 (x11_3 + 1))) else (spec_Proves.l1 k3 l0 l1 l2 l3 (x9_3.set (x11_3 : Int).toNat ((rd l1 x10_2) == x11_3)) x10_2 (wrap64 (x11_3 + 1)))) = some r := by rw [← hbq48] at H; exact H
       have Nbq48 := aM hbq48
       clear hbq48
       by_cases c49 : bq48 = true
       {
       subst c49
       rw [if_pos rfl] at H
       obtain ⟨y503, hy503⟩ : ∃ y_ : List Bool, y_ = (x9_3.set (x11_3 : Int).toNat true) := ⟨_, rfl⟩
       replace H : (spec_Proves.l1 k3 l0 l1 l2 l3 y503 x10_2 (wrap64 (x11_3 + 1))) = some r := by first | (rw [hy503]; with_reducible exact H) | (have H2_ := (Option.bind_some _ _).symm.trans H; rw [hy503]; with_reducible exact H2_) | (have H2_ := (Option.bind_some _ _).symm.trans H; with_reducible exact H2_) | with_reducible exact H | (rw [hy503]; exact H) | exact H
       have Ny503 := aM hy503
       clear hy503
       have H' := aM H
       clear H
       have p489 : 0 ≤ (x10_2 : Int) := dt_
       have q489 : x10_2 < (l2.length : Int) := dt_
       obtain ⟨ad489, e489, hx489_0⟩ := Kd.at_int HR2.out x10_2 p489 q489
       cases e489
       replace hx489_0 := cB_ hx489_0
       replace p489 := eq_true p489
       replace q489 := eq_true q489
       have p490 : 0 ≤ (x11_3 : Int) := dt_
       have q490 : x11_3 < (l3.length : Int) := dt_
       obtain ⟨ad490, e490, hx490_0⟩ := Kd.at_int HR3.out x11_3 p490 q490
       cases e490
       replace hx490_0 := cB_ hx490_0
       replace p490 := eq_true p490
       replace q490 := eq_true q490
       have p491 : 0 ≤ (x10_2 : Int) := dt_
       have q491 : x10_2 < (l0.length : Int) := dt_
       obtain ⟨ad491, A491_0, c491_0, e491, hx491_0, hl491_0, hi491_0⟩ := at_L1 HR0.out x10_2 p491 q491
       obtain rfl : ad488 = ad491 := (by injection e491)
       replace hx491_0 := cB_ hx491_0
       have HR491_0 := aM hi491_0
       have HC491_0 := aM hl491_0
       clear hi491_0 hl491_0
       replace p491 := eq_true p491
       replace q491 := eq_true q491
       have p492 : 0 ≤ (x11_3 : Int) := dt_
       have q492 : x11_3 < ((rd_L1 l0 x10_2).length : Int) := dt_
       obtain ⟨ad492, e492, hx492_0⟩ := Kd.at_int HR491_0.out x11_3 p492 q492
       cases e492
       replace hx492_0 := cB_ hx492_0
       replace p492 := eq_true p492
       replace q492 := eq_true q492
       have p493 : 0 ≤ (x10_2 : Int) := dt_
       have q493 : x10_2 < (l1.length : Int) := dt_
       obtain ⟨ad493, e493, hx493_0⟩ := Kd.at_int HR1.out x10_2 p493 q493
       cases e493
       replace hx493_0 := cB_ hx493_0
       replace p493 := eq_true p493
       replace q493 := eq_true q493
       obtain ⟨Ao51, co51, eo51⟩ := Kd.R_slice HO_9.out
       subst eo51
       have p502 : 0 ≤ (x11_3 : Int) := dt_
       have q502 : x11_3 < (x9_3.length : Int) := dt_
       obtain ⟨ad502, e502, hx502_0⟩ := Kd.at_bool (Kd.R_reads' HO_9.out).2.2 x11_3 p502 q502
       (try rw [← Nbq48.out] at hx502_0)
       cases e502
       replace p502 := eq_true p502
       replace q502 := eq_true q502
       have p50 : 0 ≤ (x11_3 : Int) := dt_
       have q50 : (x11_3 : Int) < ((x9_3.length : Int) : Int) := dt_
       obtain ⟨go50, co50, eo50, gb50, gl50, cl50, HG50⟩ := Kd.R_form HO_9.out (by omega)
       (first | cases eo50 | (injection eo50 with ea_ en_ ec_; (first | subst ea_ | (injection ea_ with ea_; subst ea_)); subst ec_; clear en_))
       have GB50 := aM gb50
       have GG50 := aM HG50
       clear gb50 gl50 HG50
       (first | simp only [add_plain] at hx502_0 | skip)
       obtain ⟨hx50_0, hf50_0⟩ := Kd.R_celln false HO_9.out (x11_3 : Int) p50 q50
       replace p50 := eq_true p50
       replace q50 := eq_true q50
       obtain ⟨hy52_, hz52_⟩ := Kd.R_celln false HO_9.out (x11_3 : Int) (dt_) (dt_)
       have HP52 := Kd.R_putg HO_9.out (x11_3 : Int) true
       go_wp2_with (first | ((with_reducible refine gate_store (t := 4) (p := 125) rfl ?_); (try (rw [drewN_self wr]; generalize hq_ : World.drewN wr _ = wr; replace HO_9 := aM (Kd.R_at hq_ HO_9.out); replace HB := aM (below_at hq_ HB.out); clear hq_; (try (obtain ⟨hy52_, hz52_⟩ := Kd.R_celln false HO_9.out (x11_3 : Int) (dt_) (dt_))); (try (have HP52 := Kd.R_putg HO_9.out (x11_3 : Int) true)))); refine store_event (t := 4) (p := 125) (v := ?vo_w53) (w1 := (wr.setCell ⟨go50, (x11_3 : Int).toNat, none⟩ (.bool true))) ?hg ?ho ?hn ?hr ?_; (case ho => rfl); (case hg => rfl); (case hn => rfl); (case hr => exact qz11); intro w53 hw; have hg : wr.grownBy w53 (some go50) := (by rw [hw]; exact HP52.2); have hp_ : Kd.R Kd.bool 4 w53 w.heap.size (fun _ => True) (.slice (some ⟨go50, 0, none⟩) x9_3.length co51) y503 := (by rw [hw, Ny503.out]; exact HP52.1); clear HP52; replace HO_9 := aM (hp_); replace HB := aM ((by rw [hw]; exact below_set (HB.out) GB50.out : Below w.heap.size w w53)); clear hg hw hp_))
       repeat (go_quiet (first | ((with_reducible refine gate_store (t := 4) (p := 125) rfl ?_); (try (rw [drewN_self wr]; generalize hq_ : World.drewN wr _ = wr; replace HO_9 := aM (Kd.R_at hq_ HO_9.out); replace HB := aM (below_at hq_ HB.out); clear hq_; (try (obtain ⟨hy52_, hz52_⟩ := Kd.R_celln false HO_9.out (x11_3 : Int) (dt_) (dt_))); (try (have HP52 := Kd.R_putg HO_9.out (x11_3 : Int) true)))); refine store_event (t := 4) (p := 125) (v := ?vo_w53) (w1 := (wr.setCell ⟨go50, (x11_3 : Int).toNat, none⟩ (.bool true))) ?hg ?ho ?hn ?hr ?_; (case ho => rfl); (case hg => rfl); (case hn => rfl); (case hr => exact qz11); intro w53 hw; have hg : wr.grownBy w53 (some go50) := (by rw [hw]; exact HP52.2); have hp_ : Kd.R Kd.bool 4 w53 w.heap.size (fun _ => True) (.slice (some ⟨go50, 0, none⟩) x9_3.length co51) y503 := (by rw [hw, Ny503.out]; exact HP52.1); clear HP52; replace HO_9 := aM (hp_); replace HB := aM ((by rw [hw]; exact below_set (HB.out) GB50.out : Below w.heap.size w w53)); clear hg hw hp_)); try go_wp2_with (first | ((with_reducible refine gate_store (t := 4) (p := 125) rfl ?_); (try (rw [drewN_self wr]; generalize hq_ : World.drewN wr _ = wr; replace HO_9 := aM (Kd.R_at hq_ HO_9.out); replace HB := aM (below_at hq_ HB.out); clear hq_; (try (obtain ⟨hy52_, hz52_⟩ := Kd.R_celln false HO_9.out (x11_3 : Int) (dt_) (dt_))); (try (have HP52 := Kd.R_putg HO_9.out (x11_3 : Int) true)))); refine store_event (t := 4) (p := 125) (v := ?vo_w53) (w1 := (wr.setCell ⟨go50, (x11_3 : Int).toNat, none⟩ (.bool true))) ?hg ?ho ?hn ?hr ?_; (case ho => rfl); (case hg => rfl); (case hn => rfl); (case hr => exact qz11); intro w53 hw; have hg : wr.grownBy w53 (some go50) := (by rw [hw]; exact HP52.2); have hp_ : Kd.R Kd.bool 4 w53 w.heap.size (fun _ => True) (.slice (some ⟨go50, 0, none⟩) x9_3.length co51) y503 := (by rw [hw, Ny503.out]; exact HP52.1); clear HP52; replace HO_9 := aM (hp_); replace HB := aM ((by rw [hw]; exact below_set (HB.out) GB50.out : Below w.heap.size w w53)); clear hg hw hp_)))
       go_roundg k3
       case measure => have := HJ4.out; have := HK2.out; have := HK3.out; omega
       case rel => exact ⟨(y503), (wrap64 (x11_3 + 1)), qz5, H', ⟨by have := HJ4.out; have := HK2.out; have := HK3.out; omega⟩, ⟨rm_ HO_9.out⟩, ⟨qz1⟩⟩
       }
       {
       replace c49 := Bool.eq_false_iff.mpr c49
       subst c49
       rw [if_neg (show ¬ (false = true) by decide)] at H
       obtain ⟨y505, hy505⟩ : ∃ y_ : List Bool, y_ = (x9_3.set (x11_3 : Int).toNat ((rd l1 x10_2) == x11_3)) := ⟨_, rfl⟩
       replace H : (spec_Proves.l1 k3 l0 l1 l2 l3 y505 x10_2 (wrap64 (x11_3 + 1))) = some r := by first | (rw [hy505]; with_reducible exact H) | (have H2_ := (Option.bind_some _ _).symm.trans H; rw [hy505]; with_reducible exact H2_) | (have H2_ := (Option.bind_some _ _).symm.trans H; with_reducible exact H2_) | with_reducible exact H | (rw [hy505]; exact H) | exact H
       have Ny505 := aM hy505
       clear hy505
       have H' := aM H
       clear H
       have p489 : 0 ≤ (x10_2 : Int) := dt_
       have q489 : x10_2 < (l2.length : Int) := dt_
       obtain ⟨ad489, e489, hx489_0⟩ := Kd.at_int HR2.out x10_2 p489 q489
       cases e489
       replace hx489_0 := cB_ hx489_0
       replace p489 := eq_true p489
       replace q489 := eq_true q489
       have p490 : 0 ≤ (x11_3 : Int) := dt_
       have q490 : x11_3 < (l3.length : Int) := dt_
       obtain ⟨ad490, e490, hx490_0⟩ := Kd.at_int HR3.out x11_3 p490 q490
       cases e490
       replace hx490_0 := cB_ hx490_0
       replace p490 := eq_true p490
       replace q490 := eq_true q490
       have p491 : 0 ≤ (x10_2 : Int) := dt_
       have q491 : x10_2 < (l0.length : Int) := dt_
       obtain ⟨ad491, A491_0, c491_0, e491, hx491_0, hl491_0, hi491_0⟩ := at_L1 HR0.out x10_2 p491 q491
       obtain rfl : ad488 = ad491 := (by injection e491)
       replace hx491_0 := cB_ hx491_0
       have HR491_0 := aM hi491_0
       have HC491_0 := aM hl491_0
       clear hi491_0 hl491_0
       replace p491 := eq_true p491
       replace q491 := eq_true q491
       have p492 : 0 ≤ (x11_3 : Int) := dt_
       have q492 : x11_3 < ((rd_L1 l0 x10_2).length : Int) := dt_
       obtain ⟨ad492, e492, hx492_0⟩ := Kd.at_int HR491_0.out x11_3 p492 q492
       cases e492
       replace hx492_0 := cB_ hx492_0
       replace p492 := eq_true p492
       replace q492 := eq_true q492
       have p493 : 0 ≤ (x10_2 : Int) := dt_
       have q493 : x10_2 < (l1.length : Int) := dt_
       obtain ⟨ad493, e493, hx493_0⟩ := Kd.at_int HR1.out x10_2 p493 q493
       cases e493
       replace hx493_0 := cB_ hx493_0
       replace p493 := eq_true p493
       replace q493 := eq_true q493
       obtain ⟨Ao55, co55, eo55⟩ := Kd.R_slice HO_9.out
       subst eo55
       have p502 : 0 ≤ (x11_3 : Int) := dt_
       have q502 : x11_3 < (x9_3.length : Int) := dt_
       obtain ⟨ad502, e502, hx502_0⟩ := Kd.at_bool (Kd.R_reads' HO_9.out).2.2 x11_3 p502 q502
       (try rw [← Nbq48.out] at hx502_0)
       cases e502
       replace p502 := eq_true p502
       replace q502 := eq_true q502
       have p504 : 0 ≤ (x10_2 : Int) := dt_
       have q504 : x10_2 < (l1.length : Int) := dt_
       obtain ⟨ad504, e504, hx504_0⟩ := Kd.at_int HR1.out x10_2 p504 q504
       obtain rfl : ad493 = ad504 := (by injection e504)
       replace hx504_0 := cB_ hx504_0
       replace p504 := eq_true p504
       replace q504 := eq_true q504
       have p54 : 0 ≤ (x11_3 : Int) := dt_
       have q54 : (x11_3 : Int) < ((x9_3.length : Int) : Int) := dt_
       obtain ⟨go54, co54, eo54, gb54, gl54, cl54, HG54⟩ := Kd.R_form HO_9.out (by omega)
       (first | cases eo54 | (injection eo54 with ea_ en_ ec_; (first | subst ea_ | (injection ea_ with ea_; subst ea_)); subst ec_; clear en_))
       have GB54 := aM gb54
       have GG54 := aM HG54
       clear gb54 gl54 HG54
       (first | simp only [add_plain] at hx502_0 | skip)
       obtain ⟨hx54_0, hf54_0⟩ := Kd.R_celln false HO_9.out (x11_3 : Int) p54 q54
       replace p54 := eq_true p54
       replace q54 := eq_true q54
       obtain ⟨hy56_, hz56_⟩ := Kd.R_celln false HO_9.out (x11_3 : Int) (dt_) (dt_)
       have HP56 := Kd.R_putg HO_9.out (x11_3 : Int) ((rd l1 x10_2) == x11_3)
       go_wp2_with (first | ((with_reducible refine gate_store (t := 4) (p := 125) rfl ?_); (try (rw [drewN_self wr]; generalize hq_ : World.drewN wr _ = wr; replace HO_9 := aM (Kd.R_at hq_ HO_9.out); replace HB := aM (below_at hq_ HB.out); clear hq_; (try (obtain ⟨hy56_, hz56_⟩ := Kd.R_celln false HO_9.out (x11_3 : Int) (dt_) (dt_))); (try (have HP56 := Kd.R_putg HO_9.out (x11_3 : Int) ((rd l1 x10_2) == x11_3))))); refine store_event (t := 4) (p := 125) (v := ?vo_w57) (w1 := (wr.setCell ⟨go54, (x11_3 : Int).toNat, none⟩ (.bool ((rd l1 x10_2) == x11_3)))) ?hg ?ho ?hn ?hr ?_; (case ho => rfl); (case hg => rfl); (case hn => rfl); (case hr => exact qz11); intro w57 hw; have hg : wr.grownBy w57 (some go54) := (by rw [hw]; exact HP56.2); have hp_ : Kd.R Kd.bool 4 w57 w.heap.size (fun _ => True) (.slice (some ⟨go54, 0, none⟩) x9_3.length co55) y505 := (by rw [hw, Ny505.out]; exact HP56.1); clear HP56; replace HO_9 := aM (hp_); replace HB := aM ((by rw [hw]; exact below_set (HB.out) GB54.out : Below w.heap.size w w57)); clear hg hw hp_))
       repeat (go_quiet (first | ((with_reducible refine gate_store (t := 4) (p := 125) rfl ?_); (try (rw [drewN_self wr]; generalize hq_ : World.drewN wr _ = wr; replace HO_9 := aM (Kd.R_at hq_ HO_9.out); replace HB := aM (below_at hq_ HB.out); clear hq_; (try (obtain ⟨hy56_, hz56_⟩ := Kd.R_celln false HO_9.out (x11_3 : Int) (dt_) (dt_))); (try (have HP56 := Kd.R_putg HO_9.out (x11_3 : Int) ((rd l1 x10_2) == x11_3))))); refine store_event (t := 4) (p := 125) (v := ?vo_w57) (w1 := (wr.setCell ⟨go54, (x11_3 : Int).toNat, none⟩ (.bool ((rd l1 x10_2) == x11_3)))) ?hg ?ho ?hn ?hr ?_; (case ho => rfl); (case hg => rfl); (case hn => rfl); (case hr => exact qz11); intro w57 hw; have hg : wr.grownBy w57 (some go54) := (by rw [hw]; exact HP56.2); have hp_ : Kd.R Kd.bool 4 w57 w.heap.size (fun _ => True) (.slice (some ⟨go54, 0, none⟩) x9_3.length co55) y505 := (by rw [hw, Ny505.out]; exact HP56.1); clear HP56; replace HO_9 := aM (hp_); replace HB := aM ((by rw [hw]; exact below_set (HB.out) GB54.out : Below w.heap.size w w57)); clear hg hw hp_)); try go_wp2_with (first | ((with_reducible refine gate_store (t := 4) (p := 125) rfl ?_); (try (rw [drewN_self wr]; generalize hq_ : World.drewN wr _ = wr; replace HO_9 := aM (Kd.R_at hq_ HO_9.out); replace HB := aM (below_at hq_ HB.out); clear hq_; (try (obtain ⟨hy56_, hz56_⟩ := Kd.R_celln false HO_9.out (x11_3 : Int) (dt_) (dt_))); (try (have HP56 := Kd.R_putg HO_9.out (x11_3 : Int) ((rd l1 x10_2) == x11_3))))); refine store_event (t := 4) (p := 125) (v := ?vo_w57) (w1 := (wr.setCell ⟨go54, (x11_3 : Int).toNat, none⟩ (.bool ((rd l1 x10_2) == x11_3)))) ?hg ?ho ?hn ?hr ?_; (case ho => rfl); (case hg => rfl); (case hn => rfl); (case hr => exact qz11); intro w57 hw; have hg : wr.grownBy w57 (some go54) := (by rw [hw]; exact HP56.2); have hp_ : Kd.R Kd.bool 4 w57 w.heap.size (fun _ => True) (.slice (some ⟨go54, 0, none⟩) x9_3.length co55) y505 := (by rw [hw, Ny505.out]; exact HP56.1); clear HP56; replace HO_9 := aM (hp_); replace HB := aM ((by rw [hw]; exact below_set (HB.out) GB54.out : Below w.heap.size w w57)); clear hg hw hp_)))
       go_roundg k3
       case measure => have := HJ4.out; have := HK2.out; have := HK3.out; omega
       case rel => exact ⟨(y505), (wrap64 (x11_3 + 1)), qz5, H', ⟨by have := HJ4.out; have := HK2.out; have := HK3.out; omega⟩, ⟨rm_ HO_9.out⟩, ⟨qz1⟩⟩
       }
       }
       {
       exact an_ c47 H
       }
       }
       }
       {
       exact an_ c33 H
       }
       }
       }
       {
       exact an_ c31 H
       }
       }
       {
       exact an_ c30 H
       }
       }
       {
       exact an_ c29 H
       }
       }
       {
       exact an_ c28 H
       }
       }
       {
       exact an_ c27 H
       }
       }
       {
       rw [if_neg c26] at H
       have c26b0 := decide_eq_false c26
       clear c26
       have H' := aM H
       clear H
       go_wp2
       repeat (go_quiet (fail); try go_wp2)
       go_roundg k3
       case measure => have := HJ4.out; have := HK2.out; have := HK3.out; omega
       case rel => exact ⟨(x9_3), (wrap64 (x10_2 + 1)), qz5, H', ⟨by have := HJ4.out; have := HK2.out; have := HK3.out; omega⟩, ⟨rm_ HO_9.out⟩, ⟨qz1⟩⟩
       }
     }
     {
     rw [if_neg c25] at H
     have c25b0 := beq_eq_false_iff_ne.mpr c25
     have c25b1 := bne_iff_ne.mpr c25
     have c25b2 : ((rd_L1 l0 x10_2).length == l3.length) = false := by first | simpa using c25 | (simp at c25 ⊢; omega)
     obtain rfl := Option.some.inj H
     simp only [Option.some.injEq, Prod.mk.injEq] at H
     obtain ⟨rfl⟩ := H
     have p488 : 0 ≤ (x10_2 : Int) := dt_
     have q488 : x10_2 < (l0.length : Int) := dt_
     obtain ⟨ad488, A488_0, c488_0, e488, hx488_0, hl488_0, hi488_0⟩ := at_L1 HR0.out x10_2 p488 q488
     cases e488
     replace hx488_0 := cB_ hx488_0
     have HR488_0 := aM hi488_0
     have HC488_0 := aM hl488_0
     clear hi488_0 hl488_0
     replace p488 := eq_true p488
     replace q488 := eq_true q488
     go_wp2
     repeat (go_quiet (fail); try go_wp2)
     go_ret
     exact ⟨qzw, qz1⟩
     }
     }
     {
     exact an_ c24 H
     }
     }
     {
     rw [if_neg c23] at H
     have c23b0 := decide_eq_false c23
     clear c23
     have H' := aM H
     clear H
     go_wp2
     repeat (go_quiet (fail); try go_wp2)
     go_loopg [12] k2 (fun kq v12 w' => ∃ (x12_3 : Int), v12 = .int .i64 x12_3 ∧ Aside0 (spec_Proves.l2 kq l3 x9_2 x12_3 = some r) ∧ Aside0 (kq ≤ k2) ∧ Aside0 (Kd.R Kd.bool 4 w' w.heap.size (fun _ => True) v486 x9_2) ∧ Aside0 (Below w.heap.size w w'))
     case atStart => exact ⟨(0), qz5, H', ⟨Nat.le_refl _⟩, ⟨rr_ HO_9.out⟩, ⟨qz1⟩⟩
     case round =>
      clear H'
      try clear c2
      try clear p2
      try clear c3
      try clear p3
      try clear q3
      try clear hx3
      try clear c4
      try clear p4
      try clear q4
      try clear hx4
      try clear hf4
      try clear p5
      try clear q5
      try clear hx5
      try clear hf5
      try clear p6
      try clear c23
      try clear c23b0
      try clear c24
      try clear c25
      try clear c25b0
      try clear c25b1
      try clear c25b2
      try clear c26
      try clear c26b0
      try clear c27
      try clear c28
      try clear c29
      try clear c30
      try clear c31
      try clear c32
      try clear c32b0
      try clear c33
      try clear c33b0
      try clear c34
      try clear c34b0
      try clear c34b1
      try clear c35
      try clear c35b0
      try clear c35b1
      try clear c36
      try clear c36b0
      try clear q37
      try clear c38
      try clear p39
      try clear q39
      try clear hx39
      try clear hf39
      try clear p43
      try clear q43
      try clear hx43
      try clear hf43
      try clear c47
      try clear c47b0
      try clear c48
      try clear p48
      try clear q48
      try clear hx48
      try clear c49
      try clear p49
      try clear q49
      try clear hx49
      try clear p50
      try clear q50
      try clear hx50
      try clear hf50
      try clear p54
      try clear q54
      try clear hx54
      try clear hf54
      try clear hx39_0
      try clear hx43_0
      try clear hx488_0
      try clear hx489_0
      try clear hx490_0
      try clear hx491_0
      try clear hx492_0
      try clear hx493_0
      try clear hx494_0
      try clear hx495_0
      try clear hx496_0
      try clear hx497_0
      try clear hx498_0
      try clear hx500_0
      try clear hx502_0
      try clear hx504_0
      try clear hx50_0
      try clear hx54_0
      try clear p488
      try clear p489
      try clear p490
      try clear p491
      try clear p492
      try clear p493
      try clear p494
      try clear p495
      try clear p496
      try clear p497
      try clear p498
      try clear p500
      try clear p502
      try clear p504
      try clear q488
      try clear q489
      try clear q490
      try clear q491
      try clear q492
      try clear q493
      try clear q494
      try clear q495
      try clear q496
      try clear q497
      try clear q498
      try clear q500
      try clear q502
      try clear q504
      obtain ⟨x12_3, rfl, HA, HK3, HO_9, HB⟩ := hrel
      cases gk with
      | zero => exact absurd HA.out (by simp [spec_Proves.l2])
      | succ k3 =>
       have H := HA.out
       clear HA
       simp only [spec_Proves.l2] at H
       by_cases c58 : x12_3 < (l3.length : Int)
       {
       rw [if_pos c58] at H
       have c58b0 := decide_eq_true c58
       clear c58
       by_cases c59 : 0 ≤ x12_3
       {
       rw [if_pos c59] at H
       have c59b0 := decide_eq_true c59
       clear c59
       by_cases c60 : (rd l3 x12_3) > 0
       {
       rw [if_pos c60] at H
       have c60b0 := decide_eq_true c60
       clear c60
       obtain rfl := Option.some.inj H
       simp only [Option.some.injEq, Prod.mk.injEq] at H
       obtain ⟨rfl⟩ := H
       have p506 : 0 ≤ (x12_3 : Int) := dt_
       have q506 : x12_3 < (l3.length : Int) := dt_
       obtain ⟨ad506, e506, hx506_0⟩ := Kd.at_int HR3.out x12_3 p506 q506
       cases e506
       replace hx506_0 := cB_ hx506_0
       replace p506 := eq_true p506
       replace q506 := eq_true q506
       go_wp2
       repeat (go_quiet (fail); try go_wp2)
       go_ret
       exact ⟨qzw, qz1⟩
       }
       {
       rw [if_neg c60] at H
       have c60b0 := decide_eq_false c60
       clear c60
       by_cases c61 : x12_3 < (x9_2.length : Int)
       {
       rw [if_pos c61] at H
       have c61b0 := decide_eq_true c61
       clear c61
       obtain ⟨bq62, hbq62⟩ : ∃ b_ : Bool, b_ = (rdOf false x9_2 x12_3) := ⟨_, rfl⟩
       replace H : (if bq62 = true then (spec_Proves.l2 k3 l3 x9_2 (wrap64 (x12_3 + 1))) else (if (rd l3 x12_3) = 0 then (spec_Proves.l2 k3 l3 x9_2 (wrap64 (x12_3 + 1))) else (some false))) = some r := by rw [← hbq62] at H; exact H
       have Nbq62 := aM hbq62
       clear hbq62
       by_cases c63 : bq62 = true
       {
       subst c63
       rw [if_pos rfl] at H
       have H' := aM H
       clear H
       have p506 : 0 ≤ (x12_3 : Int) := dt_
       have q506 : x12_3 < (l3.length : Int) := dt_
       obtain ⟨ad506, e506, hx506_0⟩ := Kd.at_int HR3.out x12_3 p506 q506
       cases e506
       replace hx506_0 := cB_ hx506_0
       replace p506 := eq_true p506
       replace q506 := eq_true q506
       obtain ⟨Ao64, co64, eo64⟩ := Kd.R_slice HO_9.out
       subst eo64
       have p507 : 0 ≤ (x12_3 : Int) := dt_
       have q507 : x12_3 < (x9_2.length : Int) := dt_
       obtain ⟨ad507, e507, hx507_0⟩ := Kd.at_bool (Kd.R_reads' HO_9.out).2.2 x12_3 p507 q507
       (try rw [← Nbq62.out] at hx507_0)
       cases e507
       replace p507 := eq_true p507
       replace q507 := eq_true q507
       go_wp2
       repeat (go_quiet (fail); try go_wp2)
       go_roundg k3
       case measure => have := HJ4.out; have := HK2.out; have := HK3.out; omega
       case rel => exact ⟨(wrap64 (x12_3 + 1)), qz5, H', ⟨by have := HJ4.out; have := HK2.out; have := HK3.out; omega⟩, ⟨rm_ HO_9.out⟩, ⟨qz1⟩⟩
       }
       {
       replace c63 := Bool.eq_false_iff.mpr c63
       subst c63
       rw [if_neg (show ¬ (false = true) by decide)] at H
       by_cases c65 : (rd l3 x12_3) = 0
       {
       rw [if_pos c65] at H
       have c65b0 := beq_iff_eq.mpr c65
       have c65b1 := bne_eq_false_iff_eq.mpr c65
       clear c65
       have H' := aM H
       clear H
       have p506 : 0 ≤ (x12_3 : Int) := dt_
       have q506 : x12_3 < (l3.length : Int) := dt_
       obtain ⟨ad506, e506, hx506_0⟩ := Kd.at_int HR3.out x12_3 p506 q506
       cases e506
       replace hx506_0 := cB_ hx506_0
       replace p506 := eq_true p506
       replace q506 := eq_true q506
       obtain ⟨Ao66, co66, eo66⟩ := Kd.R_slice HO_9.out
       subst eo66
       have p507 : 0 ≤ (x12_3 : Int) := dt_
       have q507 : x12_3 < (x9_2.length : Int) := dt_
       obtain ⟨ad507, e507, hx507_0⟩ := Kd.at_bool (Kd.R_reads' HO_9.out).2.2 x12_3 p507 q507
       (try rw [← Nbq62.out] at hx507_0)
       cases e507
       replace p507 := eq_true p507
       replace q507 := eq_true q507
       have p508 : 0 ≤ (x12_3 : Int) := dt_
       have q508 : x12_3 < (l3.length : Int) := dt_
       obtain ⟨ad508, e508, hx508_0⟩ := Kd.at_int HR3.out x12_3 p508 q508
       obtain rfl : ad506 = ad508 := (by injection e508)
       replace hx508_0 := cB_ hx508_0
       replace p508 := eq_true p508
       replace q508 := eq_true q508
       go_wp2
       repeat (go_quiet (fail); try go_wp2)
       go_roundg k3
       case measure => have := HJ4.out; have := HK2.out; have := HK3.out; omega
       case rel => exact ⟨(wrap64 (x12_3 + 1)), qz5, H', ⟨by have := HJ4.out; have := HK2.out; have := HK3.out; omega⟩, ⟨rm_ HO_9.out⟩, ⟨qz1⟩⟩
       }
       {
       rw [if_neg c65] at H
       have c65b0 := beq_eq_false_iff_ne.mpr c65
       have c65b1 := bne_iff_ne.mpr c65
       obtain rfl := Option.some.inj H
       simp only [Option.some.injEq, Prod.mk.injEq] at H
       obtain ⟨rfl⟩ := H
       have p506 : 0 ≤ (x12_3 : Int) := dt_
       have q506 : x12_3 < (l3.length : Int) := dt_
       obtain ⟨ad506, e506, hx506_0⟩ := Kd.at_int HR3.out x12_3 p506 q506
       cases e506
       replace hx506_0 := cB_ hx506_0
       replace p506 := eq_true p506
       replace q506 := eq_true q506
       obtain ⟨Ao67, co67, eo67⟩ := Kd.R_slice HO_9.out
       subst eo67
       have p507 : 0 ≤ (x12_3 : Int) := dt_
       have q507 : x12_3 < (x9_2.length : Int) := dt_
       obtain ⟨ad507, e507, hx507_0⟩ := Kd.at_bool (Kd.R_reads' HO_9.out).2.2 x12_3 p507 q507
       (try rw [← Nbq62.out] at hx507_0)
       cases e507
       replace p507 := eq_true p507
       replace q507 := eq_true q507
       have p508 : 0 ≤ (x12_3 : Int) := dt_
       have q508 : x12_3 < (l3.length : Int) := dt_
       obtain ⟨ad508, e508, hx508_0⟩ := Kd.at_int HR3.out x12_3 p508 q508
       obtain rfl : ad506 = ad508 := (by injection e508)
       replace hx508_0 := cB_ hx508_0
       replace p508 := eq_true p508
       replace q508 := eq_true q508
       go_wp2
       repeat (go_quiet (fail); try go_wp2)
       go_ret
       exact ⟨qzw, qz1⟩
       }
       }
       }
       {
       exact an_ c61 H
       }
       }
       }
       {
       exact an_ c59 H
       }
       }
       {
       rw [if_neg c58] at H
       have c58b0 := decide_eq_false c58
       clear c58
       obtain rfl := Option.some.inj H
       simp only [Option.some.injEq, Prod.mk.injEq] at H
       obtain ⟨rfl⟩ := H
       go_wp2
       repeat (go_quiet (fail); try go_wp2)
       go_ret
       exact ⟨qzw, qz1⟩
       }
     }
   }
   {
   exact an_ c20 H
   }
   }
   {
   exact an_ c19 H

   }
   }
end Go.Proofs.Ytbebfhlejnidkaa.PFnProved
