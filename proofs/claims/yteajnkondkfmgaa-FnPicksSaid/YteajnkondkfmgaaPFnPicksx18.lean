-- Made by a program of this session out of the translation. Lean checks it.
import Derived.Test.YteajnkondkfmgaaPFnPicksx0
import Derived.Test.YteajnkondkfmgaaPFnPicksx2
import Derived.Test.YteajnkondkfmgaaPFnPicksx5
import Derived.Test.YteajnkondkfmgaaPFnPicksx9
import Derived.Test.YteajnkondkfmgaaPFnPicksx10
import Derived.Test.YteajnkondkfmgaaPFnPicksx11
import Derived.Test.YteajnkondkfmgaaPFnPicksx12
import Derived.Test.YteajnkondkfmgaaPFnPicksx14
import Derived.Test.YteajnkondkfmgaaPFnPicksx15
import Derived.Test.YteajnkondkfmgaaPFnPicksx16
import Derived.Test.YteajnkondkfmgaaPFnPicksx17
namespace Go.Proofs.Yteajnkondkfmgaa.PFnPicks
open Go.RowKit Go.Proofs.YteajnkondkfmgaaW.PrintWords Go.Proofs.YteajnkondkfmgaaW.PrintLast Go.Proofs.YteajnkondkfmgaaW.PrintMore
attribute [local go_sem] max2_int min2_int max_two min_two max_three min_three max_four min_four   -- for this text's walks alone
set_option linter.unusedVariables false
set_option linter.unusedSimpArgs false

/-! ### laws_FnPicks: function 9 -/
mutual
def laws_FnPicks.j0 : Nat → List (S48) → List (S50) → Bool → Bool → List (S79) → Option (Bool)
 | 0, _, _, _, _, _ => none
 | k + 1, x4, x5, x6, x39, x444000 => if x39 = true then (if x6 = true then (some false) else (some ((x5.length : Int) == 0))) else (laws_FnPicks.l0 k x4 x5 x6 true 0 x444000)
def laws_FnPicks.l0 : Nat → List (S48) → List (S50) → Bool → Bool → Int → List (S79) → Option (Bool)
 | 0, _, _, _, _, _, _ => none
 | k + 1, x4, x5, x6, x7, x8, x444000 => if x8 < (x4.length : Int) then (if x7 = true then (if 0 ≤ x8 then ((impl_Free.f k x444000 ((rd_T48 x4 x8).f0)).bind fun t451 => (laws_FnPicks.l0 k x4 x5 x6 (decide (t451 ≥ ((rd_T48 x4 x8).f1))) (wrap64 (x8 + 1)) x444000)) else (none)) else (laws_FnPicks.l0 k x4 x5 x6 false (wrap64 (x8 + 1)) x444000)) else (if (x6 != x7) = true then (some false) else (if x6 = true then (laws_FnPicks.l1 k x4 x5 0 x444000) else (some ((x5.length : Int) == 0))))
def laws_FnPicks.l1 : Nat → List (S48) → List (S50) → Int → List (S79) → Option (Bool)
 | 0, _, _, _, _ => none
 | k + 1, x4, x5, x9, x444000 => if x9 < (x4.length : Int) then (laws_FnPicks.l2 k x4 x5 x9 0 0 x444000) else ((impl_HoldAll.f k x444000 x5).bind fun bt457 => ((impl_ReleaseAll.f k bt457.1 x5).bind fun bt462 => ((impl_TakeAll.f k bt457.1 x5).bind fun bt467 => (laws_FnPicks.l3 k x4 x5 bt457.2 bt462.2 bt467.2 0 x444000 bt462.1 bt467.1))))
def laws_FnPicks.l2 : Nat → List (S48) → List (S50) → Int → Int → Int → List (S79) → Option (Bool)
 | 0, _, _, _, _, _, _ => none
 | k + 1, x4, x5, x9, x10, x11, x444000 => if x11 < (x5.length : Int) then (if 0 ≤ x11 then (if 0 ≤ x9 then (if x9 < (x4.length : Int) then (if ((rd_T50 x5 x11).f1) = ((rd_T48 x4 x9).f0) then (laws_FnPicks.l2 k x4 x5 x9 (wrap64 (x10 + ((rd_T50 x5 x11).f2))) (wrap64 (x11 + 1)) x444000) else (laws_FnPicks.l2 k x4 x5 x9 x10 (wrap64 (x11 + 1)) x444000)) else (none)) else (none)) else (none)) else (if 0 ≤ x9 then (if x9 < (x4.length : Int) then (if x10 = ((rd_T48 x4 x9).f1) then (laws_FnPicks.l1 k x4 x5 (wrap64 (x9 + 1)) x444000) else (some false)) else (none)) else (none))
def laws_FnPicks.l3 : Nat → List (S48) → List (S50) → Bool → Bool → Bool → Int → List (S79) → List (S79) → List (S79) → Option (Bool)
 | 0, _, _, _, _, _, _, _, _, _ => none
 | k + 1, x4, x5, x13, x15, x17, x18, x444000, x467000, x472000 => if x18 < (x4.length : Int) then (if 0 ≤ x18 then ((impl_Count.f k x472000 ((rd_T48 x4 x18).f0)).bind fun t478 => ((impl_Count.f k x444000 ((rd_T48 x4 x18).f0)).bind fun t480 => (if t478 = (wrap64 (t480 - ((rd_T48 x4 x18).f1))) then (laws_FnPicks.l3 k x4 x5 x13 x15 x17 (wrap64 (x18 + 1)) x444000 x467000 x472000) else (some false)))) else (none)) else (if x13 = true then (if x15 = true then (if x17 = true then ((laws_sameStock.f k x467000 x444000).bind fun t472 => (if t472 = true then ((impl_PodsOf.f k x5).bind fun t473 => (if (t473.length : Int) ≤ (x444000.length : Int) then ((impl_ItemsOk.f k x4).bind fun t476 => (some t476)) else (some false))) else (some false))) else (some false)) else (some false)) else (some false))
end
def laws_FnPicks.f (k : Nat) (l0 : List Int) : Option (Bool) := (laws_big.f l0).bind fun t436 => (if t436 = true then (some true) else ((spec_DrawPicks.f k l0).bind fun bt437 => ((impl_Picks.f k bt437.1 bt437.2).bind fun bt444 => ((spec_StockOk.f k bt437.1).bind fun t448 => (if t448 = true then ((spec_ItemsOk.f k bt437.2).bind fun t449 => (laws_FnPicks.j0 k bt437.2 bt444.1 bt444.2 (!t449) bt437.1)) else (laws_FnPicks.j0 k bt437.2 bt444.1 bt444.2 true bt437.1))))))
theorem laws_FnPicks.mono_l : ∀ k, (∀ y0 y1 y2 y3 y4, LeO (laws_FnPicks.j0 k y0 y1 y2 y3 y4) (laws_FnPicks.j0 (k + 1) y0 y1 y2 y3 y4)) ∧ (∀ y0 y1 y2 y3 y4 y5, LeO (laws_FnPicks.l0 k y0 y1 y2 y3 y4 y5) (laws_FnPicks.l0 (k + 1) y0 y1 y2 y3 y4 y5)) ∧ (∀ y0 y1 y2 y3, LeO (laws_FnPicks.l1 k y0 y1 y2 y3) (laws_FnPicks.l1 (k + 1) y0 y1 y2 y3)) ∧ (∀ y0 y1 y2 y3 y4 y5, LeO (laws_FnPicks.l2 k y0 y1 y2 y3 y4 y5) (laws_FnPicks.l2 (k + 1) y0 y1 y2 y3 y4 y5)) ∧ (∀ y0 y1 y2 y3 y4 y5 y6 y7 y8, LeO (laws_FnPicks.l3 k y0 y1 y2 y3 y4 y5 y6 y7 y8) (laws_FnPicks.l3 (k + 1) y0 y1 y2 y3 y4 y5 y6 y7 y8))
 | 0 => ⟨fun _ _ _ _ _ r h => by simp [laws_FnPicks.j0] at h, fun _ _ _ _ _ _ r h => by simp [laws_FnPicks.l0] at h, fun _ _ _ _ r h => by simp [laws_FnPicks.l1] at h, fun _ _ _ _ _ _ r h => by simp [laws_FnPicks.l2] at h, fun _ _ _ _ _ _ _ _ _ r h => by simp [laws_FnPicks.l3] at h⟩
 | k + 1 => by
  obtain ⟨ih0, ih1, ih2, ih3, ih4⟩ := laws_FnPicks.mono_l k
  refine ⟨?_, ?_, ?_, ?_, ?_⟩
  {
  intro y0 y1 y2 y3 y4
  unfold laws_FnPicks.j0
  have j0 := @impl_Count.mono
  have j1 := @impl_Free.mono
  have j2 := @impl_HoldAll.mono
  have j3 := @impl_ItemsOk.mono
  have j4 := @impl_Picks.mono
  have j5 := @impl_PodsOf.mono
  have j6 := @impl_ReleaseAll.mono
  have j7 := @impl_TakeAll.mono
  have j8 := @laws_sameStock.mono
  have j9 := @spec_DrawPicks.mono
  have j10 := @spec_ItemsOk.mono
  have j11 := @spec_StockOk.mono
  exact qL
  }
  {
  intro y0 y1 y2 y3 y4 y5
  unfold laws_FnPicks.l0
  have j0 := @impl_Count.mono
  have j1 := @impl_Free.mono
  have j2 := @impl_HoldAll.mono
  have j3 := @impl_ItemsOk.mono
  have j4 := @impl_Picks.mono
  have j5 := @impl_PodsOf.mono
  have j6 := @impl_ReleaseAll.mono
  have j7 := @impl_TakeAll.mono
  have j8 := @laws_sameStock.mono
  have j9 := @spec_DrawPicks.mono
  have j10 := @spec_ItemsOk.mono
  have j11 := @spec_StockOk.mono
  exact qL
  }
  {
  intro y0 y1 y2 y3
  unfold laws_FnPicks.l1
  have j0 := @impl_Count.mono
  have j1 := @impl_Free.mono
  have j2 := @impl_HoldAll.mono
  have j3 := @impl_ItemsOk.mono
  have j4 := @impl_Picks.mono
  have j5 := @impl_PodsOf.mono
  have j6 := @impl_ReleaseAll.mono
  have j7 := @impl_TakeAll.mono
  have j8 := @laws_sameStock.mono
  have j9 := @spec_DrawPicks.mono
  have j10 := @spec_ItemsOk.mono
  have j11 := @spec_StockOk.mono
  exact qL
  }
  {
  intro y0 y1 y2 y3 y4 y5
  unfold laws_FnPicks.l2
  have j0 := @impl_Count.mono
  have j1 := @impl_Free.mono
  have j2 := @impl_HoldAll.mono
  have j3 := @impl_ItemsOk.mono
  have j4 := @impl_Picks.mono
  have j5 := @impl_PodsOf.mono
  have j6 := @impl_ReleaseAll.mono
  have j7 := @impl_TakeAll.mono
  have j8 := @laws_sameStock.mono
  have j9 := @spec_DrawPicks.mono
  have j10 := @spec_ItemsOk.mono
  have j11 := @spec_StockOk.mono
  exact qL
  }
  {
  intro y0 y1 y2 y3 y4 y5 y6 y7 y8
  unfold laws_FnPicks.l3
  have j0 := @impl_Count.mono
  have j1 := @impl_Free.mono
  have j2 := @impl_HoldAll.mono
  have j3 := @impl_ItemsOk.mono
  have j4 := @impl_Picks.mono
  have j5 := @impl_PodsOf.mono
  have j6 := @impl_ReleaseAll.mono
  have j7 := @impl_TakeAll.mono
  have j8 := @laws_sameStock.mono
  have j9 := @spec_DrawPicks.mono
  have j10 := @spec_ItemsOk.mono
  have j11 := @spec_StockOk.mono
  exact qL
  }
theorem laws_FnPicks.mono : ∀ a0 k, LeO (laws_FnPicks.f k a0) (laws_FnPicks.f (k + 1) a0) := by
 intro a0 k
 obtain ⟨ih0, ih1, ih2, ih3, ih4⟩ := laws_FnPicks.mono_l k
 unfold laws_FnPicks.f
 have j0 := @impl_Count.mono
 have j1 := @impl_Free.mono
 have j2 := @impl_HoldAll.mono
 have j3 := @impl_ItemsOk.mono
 have j4 := @impl_Picks.mono
 have j5 := @impl_PodsOf.mono
 have j6 := @impl_ReleaseAll.mono
 have j7 := @impl_TakeAll.mono
 have j8 := @laws_sameStock.mono
 have j9 := @spec_DrawPicks.mono
 have j10 := @spec_ItemsOk.mono
 have j11 := @spec_StockOk.mono
 exact qL
def laws_FnPicks.T11 : Bool × List (List Nat × List Nat) := (true, [([], []), ([0], [0]), ([1], [1]), ([1], [1]), ([1], [1]), ([3, 4, 1], [1, 3, 4]), ([5, 1], [1, 5]), ([6, 1], [1, 6]), ([2, 7, 1, 1], [1, 2, 7]), ([1], [1]), ([1], [1]), ([9, 10, 1], [1, 9, 10]), ([11, 1], [1, 11]), ([12, 1], [1, 12]), ([8, 13, 1], [1, 8, 13]), ([1, 14], [1, 14]), ([15, 8, 0, 1, 2, 3, 4, 5, 6, 7, 8, 9, 10, 11, 12, 13, 14, 15], [0, 15])])
def laws_FnPicks.B11 : List Nat := [0, 1, 3, 3, 3, 27, 59, 123, 255, 3, 3, 1539, 3587, 7683, 16383, 32767, 65535]
theorem laws_FnPicks.tab11 : rtab .any (opsOf Try.f9 11) = laws_FnPicks.T11 := by kernel_rfl
theorem laws_FnPicks.bits11 : waitsOk laws_FnPicks.T11.2 laws_FnPicks.B11 = true := by kernel_rfl
def laws_FnPicks.T23 : Bool × List (List Nat × List Nat) := (true, [([], []), ([], []), ([0, 1], [0, 1]), ([2], [2]), ([3], [3]), ([], []), ([], []), ([5, 6], [5, 6]), ([7], [7]), ([8], [8]), ([4, 9], [4, 9])])
def laws_FnPicks.B23 : List Nat := [0, 0, 3, 7, 15, 0, 0, 96, 224, 480, 1023]
theorem laws_FnPicks.tab23 : rtab .any (opsOf Try.f9 23) = laws_FnPicks.T23 := by kernel_rfl
theorem laws_FnPicks.bits23 : waitsOk laws_FnPicks.T23.2 laws_FnPicks.B23 = true := by kernel_rfl
def laws_FnPicks.T33 : Bool × List (List Nat × List Nat) := (true, [([], []), ([], []), ([], []), ([1, 2], [1, 2]), ([3], [3]), ([4], [4]), ([0, 5], [0, 5]), ([], []), ([], []), ([], []), ([8, 9], [8, 9]), ([10], [10]), ([11], [11]), ([7, 12, 6], [7, 12]), ([], []), ([], []), ([14, 15], [14, 15]), ([16], [16]), ([17], [17]), ([13, 18], [13, 18]), ([6, 19], [6, 19])])
def laws_FnPicks.B33 : List Nat := [0, 0, 0, 6, 14, 30, 63, 0, 0, 0, 768, 1792, 3840, 8191, 0, 0, 49152, 114688, 245760, 524287, 1048575]
theorem laws_FnPicks.tab33 : rtab .any (opsOf Try.f9 33) = laws_FnPicks.T33 := by kernel_rfl
theorem laws_FnPicks.bits33 : waitsOk laws_FnPicks.T33.2 laws_FnPicks.B33 = true := by kernel_rfl
def laws_FnPicks.T35 : Bool × List (List Nat × List Nat) := (true, [([], []), ([0], [0]), ([1], [1]), ([1, 2], [1, 2]), ([3, 1], [3]), ([4], [4]), ([4, 5], [4, 5]), ([6, 4], [6]), ([7], [7]), ([7], [7]), ([8, 9, 7, 7], [7, 8, 9]), ([7, 10], [7, 10]), ([11, 10], [11]), ([12], [12]), ([13, 12, 12], [12, 13]), ([14, 12], [12, 14]), ([12], [12]), ([16, 12], [12, 16]), ([17, 12], [12, 17]), ([15, 18, 12], [12, 15, 18]), ([12, 19], [12, 19]), ([20, 14], [20]), ([21], [21]), ([22, 21, 21], [21, 22]), ([21, 23], [21, 23]), ([24, 23, 0, 1, 2, 3, 4, 5, 6, 7, 8, 9, 10, 11, 12, 13, 14, 15, 16, 17, 18, 19, 20, 21, 22, 23, 24], [24])])
def laws_FnPicks.B35 : List Nat := [0, 1, 3, 7, 15, 31, 63, 127, 255, 255, 1023, 2047, 4095, 8191, 16383, 32767, 8191, 73727, 204799, 524287, 1048575, 2097151, 4194303, 8388607, 16777215, 33554431]
theorem laws_FnPicks.tab35 : rtab .any (opsOf Try.f9 35) = laws_FnPicks.T35 := by kernel_rfl
theorem laws_FnPicks.bits35 : waitsOk laws_FnPicks.T35.2 laws_FnPicks.B35 = true := by kernel_rfl
set_option maxHeartbeats 8000000 in
set_option maxRecDepth 100000 in
theorem laws_FnPicks.calls (k : Nat) (A0 : Option Addr) (c0 : Nat) (l0 : List Int) (r : Bool) (w : World) (hr0 : Kd.C (Kd.int .u8) w A0 l0.length l0) (hc0 : l0.length ≤ c0) (hT : r = true) (h : laws_FnPicks.f k l0 = some r) :
  Calls Try.prog 9 #[.slice A0 l0.length c0] w fun e w' => e = .returned (.bool r) ∧ Below w.heap.size w w' := by
 have HTR_ := aM hT
 clear hT
 have hu26 := Try.underlying26
 have HR0 := aM hr0
 have HC0 := aM hc0
 clear hr0 hc0
 have HB := aM (Below.refl w.heap.size w)
 have H : ((laws_big.f l0).bind fun t436 => (if t436 = true then (some true) else ((spec_DrawPicks.f k l0).bind fun bt437 => ((impl_Picks.f k bt437.1 bt437.2).bind fun bt444 => ((spec_StockOk.f k bt437.1).bind fun t448 => (if t448 = true then ((spec_ItemsOk.f k bt437.2).bind fun t449 => (laws_FnPicks.j0 k bt437.2 bt444.1 bt444.2 (!t449) bt437.1)) else (laws_FnPicks.j0 k bt437.2 bt444.1 bt444.2 true bt437.1))))))) = some r := h
 clear h
 replace H := Option.bind_eq_some_iff.mp H
 obtain ⟨t436, A20, H⟩ := H
 replace H : (if t436 = true then (some true) else ((spec_DrawPicks.f k l0).bind fun bt437 => ((impl_Picks.f k bt437.1 bt437.2).bind fun bt444 => ((spec_StockOk.f k bt437.1).bind fun t448 => (if t448 = true then ((spec_ItemsOk.f k bt437.2).bind fun t449 => (laws_FnPicks.j0 k bt437.2 bt444.1 bt444.2 (!t449) bt437.1)) else (laws_FnPicks.j0 k bt437.2 bt444.1 bt444.2 true bt437.1)))))) = some r := H
 have A2 := aM A20
 clear A20
 by_cases c3 : t436 = true
 {
 subst c3
 rw [if_pos rfl] at H
 obtain rfl := Option.some.inj H
 simp only [Option.some.injEq, Prod.mk.injEq] at H
 obtain ⟨rfl⟩ := H
 go_enter Try.func9, Try.ntmps9
 go_wp2_with (first | ((with_reducible refine gate_callee (f := 15) rfl ?_); refine goesL_ (some 20) rfl rfl Try.func15 (by kernel_rfl) rfl #[.slice A0 l0.length c0] rfl qz4 ?_; (with_reducible refine (laws_big.calls _ _ l0 true _ ?side1 ?side2 A2.out).mono ?_); (case side1 => exact qz22); (case side2 => exact HC0.out); rintro e w' ⟨rfl, ⟨nd, rfl⟩⟩; refine ⟨_, rfl, ?_⟩))
 go_ret
 exact ⟨qzw, qz1⟩
 }
 {
 replace c3 := Bool.eq_false_iff.mpr c3
 subst c3
 rw [if_neg (show ¬ (false = true) by decide)] at H
 replace H := Option.bind_eq_some_iff.mp H
 obtain ⟨⟨t437, t440⟩, A40, H⟩ := H
 replace H : ((impl_Picks.f k t437 t440).bind fun bt444 => ((spec_StockOk.f k t437).bind fun t448 => (if t448 = true then ((spec_ItemsOk.f k t440).bind fun t449 => (laws_FnPicks.j0 k t440 bt444.1 bt444.2 (!t449) t437)) else (laws_FnPicks.j0 k t440 bt444.1 bt444.2 true t437)))) = some r := H
 have A4 := aM A40
 clear A40
 replace H := Option.bind_eq_some_iff.mp H
 obtain ⟨⟨t444, t447⟩, A50, H⟩ := H
 replace H : ((spec_StockOk.f k t437).bind fun t448 => (if t448 = true then ((spec_ItemsOk.f k t440).bind fun t449 => (laws_FnPicks.j0 k t440 t444 t447 (!t449) t437)) else (laws_FnPicks.j0 k t440 t444 t447 true t437))) = some r := H
 have A5 := aM A50
 clear A50
 have HC6 := aM H
 clear H
 go_enter Try.func9, Try.ntmps9
 go_upto_region 5 with (first | ((with_reducible refine gate_callee (f := 15) rfl ?_); refine goesL_ (some 20) rfl rfl Try.func15 (by kernel_rfl) rfl #[.slice A0 l0.length c0] rfl qz4 ?_; (with_reducible refine (laws_big.calls _ _ l0 false _ ?side1 ?side2 A2.out).mono ?_); (case side1 => exact qz22); (case side2 => exact HC0.out); rintro e w' ⟨rfl, ⟨nd, rfl⟩⟩; refine ⟨_, rfl, ?_⟩) | ((with_reducible refine gate_callee (f := 35) rfl ?_); refine goesL_ (some 23) rfl rfl Try.func35 (by kernel_rfl) rfl #[.slice A0 l0.length c0] rfl qz4 ?_; (with_reducible refine (spec_DrawPicks.calls k _ _ l0 t437 t440 _ ?side1 ?side2 A4.out).mono ?_); (case side1 => exact qz22); (case side2 => exact HC0.out); rintro e w7 ⟨v438, v441, rfl, ho0, ho1, hb⟩; refine ⟨_, rfl, ?_⟩; have HO439 := aM (Kd.N_lower (Kd.N_mono (ok' := fun k_ => some k_ ≠ (v441 : Value).ownBlock) ho0 (fun k_ hk_ => hk_.2)) (below_size qz1)); have HO442 := aM (Kd.R_lower (Kd.R_mono (ok' := fun k_ => True) ho1 (fun _ hk_ => trivial)) (below_size qz1)); replace HB := bS_ hb; (try clear hb); (try clear hb2); (try clear hk); (try clear hi); (try clear ho0); (try clear ho1)) | ((with_reducible refine gate_dst (N := 3) rfl ?_); (try (refine gate_guard (by rfl) ?_; dsimp only)); refine bx_ 3 #[.slice none 0 0] 26 ?_; intro gb443 hg w8 hbox hb; replace HO439 := aM (Kd.N_below (Kd.N_elderB qz28 gb443 (Nat.le_of_eq hg.symm)) hb); replace HO442 := aM (Kd.R_below (rr_ HO442.out) hb); have BK443 := aM (hbox); have GW443 := aM (bz_ w hg qz1); have GE443 := GW443; replace HB := bS_ hb; clear hb hbox hg; obtain ⟨Ao9, co9, eo9⟩ := Kd.N_slice HO439.out; subst eo9; obtain ⟨hcz10_0, hfz10_0⟩ := bf_ BK443.out; obtain ⟨Ao11, co11, eo11⟩ := Kd.R_slice HO442.out; subst eo11) | ((with_reducible refine gate_callee (f := 36) rfl ?_); refine goesL_ (some 29) rfl rfl Try.func36 (by kernel_rfl) rfl #[.agg #[.slice Ao9 t437.length co9], .slice Ao11 t440.length co11] rfl qz4 ?_; (with_reducible refine (impl_Picks.calls k _ _ t437 _ _ t440 t444 t447 _ ?side1 ?side2 ?side3 ?side4 A5.out).mono ?_); (case side1 => refine (Kd.N_reads' (e := 79) (base := w.heap.size) (ok := fun k_ => (some k_ ≠ (.slice Ao11 t440.length co11 : Value).ownBlock ∧ k_ ≠ gb443)) (n := t437.length) (c := co9) ?_).2.2; exact (by (with_reducible repeat (first | apply Kd.N_alloc | apply Kd.N_drewN | apply Kd.N_drew)); exact (Kd.N_mono (Kd.N_far (p := ⟨gb443, 0, none⟩) (Kd.N_mono HO439.out (fun k_ hk => (⟨hk, hk.2⟩ : _ ∧ k_ ≠ gb443))) (fun _ hk => hk.2) (.slice Ao9 t437.length co9)) (fun _ h_ => h_.1)))); (case side2 => exact (Kd.N_reads' HO439.out).2.1); (case side3 => refine (Kd.R_reads' (e := 48) (base := w.heap.size) (ok := fun k_ => True) (n := t440.length) (c := co11) ?_).2.2; exact (by (with_reducible repeat (first | apply Kd.R_alloc | apply Kd.R_drewN | apply Kd.R_drew)); exact (Kd.R_mono (Kd.R_far (p := ⟨gb443, 0, none⟩) (Kd.R_types HO442.out BK443.out (by decide)) (fun _ hk => hk.2) (.slice Ao9 t437.length co9)) (fun _ h_ => h_.1)))); (case side4 => exact (Kd.R_reads' HO442.out).2.1); rintro e w12 ⟨v445, rfl, ho0, hb⟩; refine ⟨_, rfl, ?_⟩; replace HO439 := aM (Kd.N_elder' (by (with_reducible repeat (first | apply Kd.N_alloc | apply Kd.N_drewN | apply Kd.N_drew)); exact (Kd.N_mono (Kd.N_far (p := ⟨gb443, 0, none⟩) (Kd.N_mono HO439.out (fun k_ hk => (⟨hk, hk.2⟩ : _ ∧ k_ ≠ gb443))) (fun _ hk => hk.2) (.slice Ao9 t437.length co9)) (fun _ h_ => h_.1))) (Kd.R_base ho0) hb); replace HO442 := aM (Kd.R_below (by (with_reducible repeat (first | apply Kd.R_alloc | apply Kd.R_drewN | apply Kd.R_drew)); exact (Kd.R_mono (Kd.R_far (p := ⟨gb443, 0, none⟩) (Kd.R_types HO442.out BK443.out (by decide)) (fun _ hk => hk.2) (.slice Ao9 t437.length co9)) (fun _ h_ => h_.1))) hb); have HO446 := aM (Kd.R_lower ho0 (below_size qz1)); replace BK443 := aM (blk_below (g := gb443) (o := .cells #[.slice Ao9 t437.length co9] 26 (0, 0)) (by (with_reducible repeat (first | refine blk_drewN ?_ _ | refine blk_drew ?_ | refine blk_alloc ?_ _)); refine blk_put (cs := #[.slice none 0 0]) ?_ 0 _ rfl; exact bk_ BK443.out) hb); replace HB := bS_ hb; (try clear hb); (try clear hb2); (try clear hk); (try clear hi); (try clear ho0)))
 (try simp only [Act.put, List.setIfInBounds_toArray, List.set_cons_zero, List.set_cons_succ])
 go_cut [39] (fun v39 wc => ∃ (kq : Nat) (x39_5 : Bool), v39 = .bool x39_5 ∧ Aside0 (laws_FnPicks.j0 kq t440 t444 t447 x39_5 t437 = some r) ∧ Aside0 (kq ≤ k) ∧ Aside0 (Kd.R k48 48 wc w.heap.size (fun _ => True) (.slice Ao11 t440.length co11) t440) ∧ Aside0 (Kd.R k50 50 wc w.heap.size (fun _ => True) v445 t444) ∧ Aside0 (Kd.N k79 79 wc w.heap.size (fun k_ => some k_ ≠ ((.slice Ao11 t440.length co11) : Value).ownBlock ∧ some k_ ≠ (v445 : Value).ownBlock ∧ k_ ≠ gb443) (.slice Ao9 t437.length co9) t437) ∧ Aside0 (wc.heap[gb443]? = some (.cells #[(.slice Ao9 t437.length co9)] 26 (0, 0))) ∧ Aside0 (Below w.heap.size w wc))
 case first =>
  have H := HC6.out
  clear HC6
  replace H := Option.bind_eq_some_iff.mp H
  obtain ⟨t448, A130, H⟩ := H
  replace H : (if t448 = true then ((spec_ItemsOk.f k t440).bind fun t449 => (laws_FnPicks.j0 k t440 t444 t447 (!t449) t437)) else (laws_FnPicks.j0 k t440 t444 t447 true t437)) = some r := H
  have A13 := aM A130
  clear A130
  by_cases c14 : t448 = true
  {
  subst c14
  rw [if_pos rfl] at H
  replace H := Option.bind_eq_some_iff.mp H
  obtain ⟨t449, A150, H⟩ := H
  replace H : (laws_FnPicks.j0 k t440 t444 t447 (!t449) t437) = some r := H
  have A15 := aM A150
  clear A150
  have H' := aM H
  clear H
  obtain ⟨hcz16_0, hfz16_0⟩ := bf_ BK443.out
  go_wp2_with (first | ((with_reducible refine gate_callee (f := 37) rfl ?_); refine goesL_ (some 33) rfl rfl Try.func37 (by kernel_rfl) rfl #[.agg #[.slice Ao9 t437.length co9]] rfl qz4 ?_; (with_reducible refine (spec_StockOk.calls k _ _ t437 true _ ?side1 ?side2 A13.out).mono ?_); (case side1 => repeat (first | exact (Kd.N_reads' HO439.out).2.2 | (with_reducible refine Kd.C_alloc ?_ _) | (with_reducible refine Kd.C_drewN ?_ _) | (with_reducible refine Kd.C_drew ?_))); (case side2 => exact (Kd.N_reads' HO439.out).2.1); rintro e w17 ⟨rfl, hb⟩; refine ⟨_, rfl, ?_⟩; replace HO439 := aM (Kd.N_below qz28 hb); replace HO442 := aM (Kd.R_below (rr_ HO442.out) hb); replace HO446 := aM (Kd.R_below (rr_ HO446.out) hb); replace BK443 := bB_ BK443 hb; replace HB := bS_ hb; (try clear hb); (try clear hb2); (try clear hk); (try clear hi)) | (go_at_call 38; (with_reducible refine (spec_ItemsOk.calls k _ _ t440 t449 _ ?side1 ?side2 A15.out).mono ?_); (case side1 => repeat (first | exact (Kd.R_reads' HO442.out).2.2 | (with_reducible refine Kd.C_alloc ?_ _) | (with_reducible refine Kd.C_drewN ?_ _) | (with_reducible refine Kd.C_drew ?_))); (case side2 => exact (Kd.R_reads' HO442.out).2.1); rintro e w18 ⟨rfl, hb⟩; replace HO439 := aM (Kd.N_below qz28 hb); replace HO442 := aM (Kd.R_below (rr_ HO442.out) hb); replace HO446 := aM (Kd.R_below (rr_ HO446.out) hb); replace BK443 := bB_ BK443 hb; replace HB := bS_ hb; (try clear hb); (try clear hb2); (try clear hk); (try clear hi)))
  go_meet
  case rel => exact ⟨_, (!t449), qz5, H', ⟨by first | omega | exact Nat.le_refl _⟩, ⟨rm_ HO442.out⟩, ⟨rm_ HO446.out⟩, ⟨by (with_reducible repeat (first | apply Kd.N_alloc | apply Kd.N_drewN | apply Kd.N_drew)); exact Kd.N_mono HO439.out (fun _ hk => ⟨hk.1.1, ⟨hk.2, hk.1.2⟩⟩)⟩, ⟨bk_ BK443.out⟩, ⟨qz1⟩⟩
  }
  {
  replace c14 := Bool.eq_false_iff.mpr c14
  subst c14
  rw [if_neg (show ¬ (false = true) by decide)] at H
  have H' := aM H
  clear H
  obtain ⟨hcz19_0, hfz19_0⟩ := bf_ BK443.out
  go_wp2_with (first | ((with_reducible refine gate_callee (f := 37) rfl ?_); refine goesL_ (some 33) rfl rfl Try.func37 (by kernel_rfl) rfl #[.agg #[.slice Ao9 t437.length co9]] rfl qz4 ?_; (with_reducible refine (spec_StockOk.calls k _ _ t437 false _ ?side1 ?side2 A13.out).mono ?_); (case side1 => repeat (first | exact (Kd.N_reads' HO439.out).2.2 | (with_reducible refine Kd.C_alloc ?_ _) | (with_reducible refine Kd.C_drewN ?_ _) | (with_reducible refine Kd.C_drew ?_))); (case side2 => exact (Kd.N_reads' HO439.out).2.1); rintro e w20 ⟨rfl, hb⟩; refine ⟨_, rfl, ?_⟩; replace HO439 := aM (Kd.N_below qz28 hb); replace HO442 := aM (Kd.R_below (rr_ HO442.out) hb); replace HO446 := aM (Kd.R_below (rr_ HO446.out) hb); replace BK443 := bB_ BK443 hb; replace HB := bS_ hb; (try clear hb); (try clear hb2); (try clear hk); (try clear hi)))
  go_meet
  case rel => exact ⟨_, (true), qz5, H', ⟨by first | omega | exact Nat.le_refl _⟩, ⟨rm_ HO442.out⟩, ⟨rm_ HO446.out⟩, ⟨by (with_reducible repeat (first | apply Kd.N_alloc | apply Kd.N_drewN | apply Kd.N_drew)); exact Kd.N_mono HO439.out (fun _ hk => ⟨hk.1.1, ⟨hk.2, hk.1.2⟩⟩)⟩, ⟨bk_ BK443.out⟩, ⟨qz1⟩⟩
  }
 case rest =>
  clear HC6
  try clear c1
  try clear p2
  try clear c3
  try clear c9
  try clear c14
  try clear c15
  try clear hcz10_0
  try clear hcz16_0
  try clear hcz19_0
  try clear hfz10_0
  try clear hfz16_0
  try clear hfz19_0
  obtain ⟨kq, x39_5, rfl, HA, HJ5, HO_4, HO_5, HO_444000, BK443, HB⟩ := hcut
  cases kq with
  | zero => exact absurd HA.out (by simp [laws_FnPicks.j0])
  | succ kj5 =>
   have H := HA.out
   clear HA
   simp only [laws_FnPicks.j0] at H
   by_cases c21 : x39_5 = true
   {
   subst c21
   rw [if_pos rfl] at H
   by_cases c22 : t447 = true
   {
   subst c22
   rw [if_pos rfl] at H
   obtain rfl := Option.some.inj H
   exact absurd HTR_.out (by decide)
   }
   {
   replace c22 := Bool.eq_false_iff.mpr c22
   subst c22
   rw [if_neg (show ¬ (false = true) by decide)] at H
   obtain rfl := Option.some.inj H
   simp only [Option.some.injEq, Prod.mk.injEq] at H
   obtain ⟨rfl⟩ := H
   obtain ⟨Ao23, co23, eo23⟩ := Kd.R_slice HO_5.out
   subst eo23
   go_wp2
   go_ret
   exact ⟨qzw, qz1⟩
   }
   }
   {
   replace c21 := Bool.eq_false_iff.mpr c21
   subst c21
   rw [if_neg (show ¬ (false = true) by decide)] at H
   have H' := aM H
   clear H
   go_wp2
   go_loopg [7, 8] kj5 (fun kq v7 v8 w' => ∃ (x7_2 : Bool) (x8_2 : Int), v7 = .bool x7_2 ∧ v8 = .int .i64 x8_2 ∧ Aside0 (laws_FnPicks.l0 kq t440 t444 t447 x7_2 x8_2 t437 = some r) ∧ Aside0 (kq ≤ kj5) ∧ Aside0 (Kd.R k48 48 w' w.heap.size (fun _ => True) (.slice Ao11 t440.length co11) t440) ∧ Aside0 (Kd.R k50 50 w' w.heap.size (fun _ => True) v445 t444) ∧ Aside0 (Kd.N k79 79 w' w.heap.size (fun k_ => some k_ ≠ ((.slice Ao11 t440.length co11) : Value).ownBlock ∧ some k_ ≠ (v445 : Value).ownBlock ∧ k_ ≠ gb443) (.slice Ao9 t437.length co9) t437) ∧ Aside0 (w'.heap[gb443]? = some (.cells #[(.slice Ao9 t437.length co9)] 26 (0, 0))) ∧ Aside0 (Below w.heap.size w w'))
   case atStart => exact ⟨(true), (0), qz5, qz5, H', ⟨Nat.le_refl _⟩, ⟨rr_ HO_4.out⟩, ⟨rr_ HO_5.out⟩, ⟨by (with_reducible repeat (first | apply Kd.N_alloc | apply Kd.N_drewN | apply Kd.N_drew)); exact HO_444000.out⟩, ⟨bk_ BK443.out⟩, ⟨qz1⟩⟩
   case round =>
    clear H'
    try clear c1
    try clear c2
    try clear p2
    try clear c3
    try clear c9
    try clear c14
    try clear c15
    try clear c21
    try clear c22
    try clear hcz10_0
    try clear hcz16_0
    try clear hcz19_0
    try clear hfz10_0
    try clear hfz16_0
    try clear hfz19_0
    try clear p2
    obtain ⟨x7_2, x8_2, rfl, rfl, HA, HK2, HO_4, HO_5, HO_444000, BK443, HB⟩ := hrel
    cases gk with
    | zero => exact absurd HA.out (by simp [laws_FnPicks.l0])
    | succ k2 =>
     have H := HA.out
     clear HA
     simp only [laws_FnPicks.l0] at H
     by_cases c24 : x8_2 < (t440.length : Int)
     {
     rw [if_pos c24] at H
     have c24b0 := decide_eq_true c24
     clear c24
     by_cases c25 : x7_2 = true
     {
     subst c25
     rw [if_pos rfl] at H
     by_cases c26 : 0 ≤ x8_2
     {
     rw [if_pos c26] at H
     have c26b0 := decide_eq_true c26
     clear c26
     replace H := Option.bind_eq_some_iff.mp H
     obtain ⟨t451, A270, H⟩ := H
     replace H : (laws_FnPicks.l0 k2 t440 t444 t447 (decide (t451 ≥ ((rd_T48 t440 x8_2).f1))) (wrap64 (x8_2 + 1)) t437) = some r := H
     have A27 := aM A270
     clear A270
     have H' := aM H
     clear H
     try go_wp2
     replace HO_4 := aM (Kd.R_drew HO_4.out)
     replace HO_5 := aM (Kd.R_drew HO_5.out)
     replace HO_444000 := aM (Kd.N_drew HO_444000.out)
     replace BK443 := aM (blk_drew BK443.out)
     replace HB := aM (below_drew1 HB.out)
     have p450 : 0 ≤ (x8_2 : Int) := dt_
     have q450 : x8_2 < (t440.length : Int) := dt_
     obtain ⟨ad450, e450, hx450_0, hx450_1⟩ := at_T48 (Kd.R_reads' HO_4.out).2.2 x8_2 p450 q450
     cases e450
     replace p450 := eq_true p450
     replace q450 := eq_true q450
     have p452 : 0 ≤ (x8_2 : Int) := dt_
     have q452 : x8_2 < (t440.length : Int) := dt_
     obtain ⟨ad452, e452, hx452_0, hx452_1⟩ := at_T48 (Kd.R_reads' HO_4.out).2.2 x8_2 p452 q452
     obtain rfl : ad450 = ad452 := (by injection e452)
     replace p452 := eq_true p452
     replace q452 := eq_true q452
     refine start_ (n := 17) (S := fun w' => w'.cell? ⟨gb443, 0, none⟩ = some (.slice Ao9 t437.length co9) ∧ w'.cell? (ad450.add ((x8_2).toNat * 2)) = some (.int .i64 ((rd_T48 t440 x8_2).f0)) ∧ w'.cell? ⟨(ad450.add ((x8_2).toNat * 2)).block, (ad450.add ((x8_2).toNat * 2)).off + 1, none⟩ = some (.int .i64 ((rd_T48 t440 x8_2).f1)) ∧ w'.cell? (ad450.add ((x8_2).toNat * 2)) = some (.int .i64 ((rd_T48 t440 x8_2).f0)) ∧ w'.cell? ⟨(ad450.add ((x8_2).toNat * 2)).block, (ad450.add ((x8_2).toNat * 2)).off + 1, none⟩ = some (.int .i64 ((rd_T48 t440 x8_2).f1))) (ds := []) #[false, false, false, false, false, false, false, false, false, false, false, false, false, false, false, false, false] (by kernel_rfl) rfl rfl ⟨(blk_cell BK443.out 0).trans rfl, hx450_0, hx450_1, hx452_0, hx452_1⟩ (fun hHeld => ?_); refine with_tabW laws_FnPicks.tab11 laws_FnPicks.bits11 (fun HT_ HW_ => ?_)
     generalize wr.drew = w28 at HO_4 HO_5 HO_444000 BK443 HB hx450_0 hx450_1 hx452_0 hx452_1 hHeld ⊢
     refine pI_ 0 53 (bqz 17 1) ?_
     refine jI_ 1 54 ?_
     refine jI_ 3 56 ?_
     refine jI_ 4 57 ?_
     refine jI_ 5 58 ?_
     refine jI_ 6 59 ?_
     refine jI_ 9 62 ?_
     refine jI_ 10 63 ?_
     refine jI_ 11 64 ?_
     refine jI_ 12 65 ?_
     refine sI5_ 2 55 ?_
     refine sI5_ 7 60 ?_
     refine sI5_ 13 66 ?_
     refine one_ (i := 8) (N := some 61) (bqz 17 16383) rfl rfl qzc (by decide) (fun K hK => ?_)
     refine goes_ Try.func22 (by kernel_rfl) rfl #[.agg #[.slice Ao9 t437.length co9], .int .i64 ((rd_T48 t440 x8_2).f0)] (by rfl) rfl rfl qz4 ?_
     with_reducible refine (impl_Free.calls k2 _ _ t437 ((rd_T48 t440 x8_2).f0) t451 _ ?side1 ?side2 A27.out).mono ?_
     (case side1 => exact qz18)
     (case side2 => exact (Kd.N_reads' HO_444000.out).2.1)
     rintro e w29 ⟨rfl, hb⟩
     have HS1_ := (hb.cell (World.block_lt_of_cell? _ _ (hHeld.2.1))).trans (hHeld.2.1)
     have HS2_ := (hb.cell (World.block_lt_of_cell? _ _ (hHeld.2.2.1))).trans (hHeld.2.2.1)
     have HS3_ := (hb.cell (World.block_lt_of_cell? _ _ (hHeld.2.2.2.1))).trans (hHeld.2.2.2.1)
     have HS4_ := (hb.cell (World.block_lt_of_cell? _ _ (hHeld.2.2.2.2))).trans (hHeld.2.2.2.2)
     refine ⟨_, rfl, ?_⟩
     replace HO_4 := aM (Kd.R_below (rr_ HO_4.out) hb)
     replace HO_5 := aM (Kd.R_below (rr_ HO_5.out) hb)
     replace HO_444000 := aM (Kd.N_below qz13 hb)
     replace BK443 := bB_ BK443 hb
     replace HB := bS_ hb
     (try clear hb)
     (try clear hb2)
     (try clear hk)
     (try clear hi)
     refine hK.out _ _ ⟨(blk_cell BK443.out 0).trans rfl, HS1_, HS2_, HS3_, HS4_⟩ (fun hHeld => ?_)
     clear hK K
     refine nm_ 61 ?_
     refine pI_ 14 67 (bqz 17 32767) ?_
     refine jI_ 15 68 ?_
     refine jI_ 16 7 ?_
     refine done_ (done_of HT_.out (by kernel_rfl)) ?_
     try go_wp2
     go_roundg k2
     case measure => have := HJ5.out; have := HK2.out; omega
     case rel => exact ⟨(decide (t451 ≥ ((rd_T48 t440 x8_2).f1))), (wrap64 (x8_2 + 1)), qz5, qz5, H', ⟨by have := HJ5.out; have := HK2.out; omega⟩, ⟨rm_ HO_4.out⟩, ⟨rm_ HO_5.out⟩, ⟨by (with_reducible repeat (first | apply Kd.N_alloc | apply Kd.N_drewN | apply Kd.N_drew)); (first | exact HO_444000.out | exact Kd.R_mono HO_444000.out (fun _ h_ => h_.1) | exact Kd.R_mono HO_444000.out (fun _ h_ => h_.2))⟩, ⟨bk_ BK443.out⟩, ⟨qz1⟩⟩
     }
     {
     exact an_ c26 H
     }
     }
     {
     replace c25 := Bool.eq_false_iff.mpr c25
     subst c25
     rw [if_neg (show ¬ (false = true) by decide)] at H
     have H' := aM H
     clear H
     try go_wp2
     replace HO_4 := aM (Kd.R_drew HO_4.out)
     replace HO_5 := aM (Kd.R_drew HO_5.out)
     replace HO_444000 := aM (Kd.N_drew HO_444000.out)
     replace BK443 := aM (blk_drew BK443.out)
     replace HB := aM (below_drew1 HB.out)
     refine start_ (n := 17) (S := fun w' => True) (ds := []) #[false, false, false, false, false, false, false, false, false, false, false, false, false, false, false, false, false] (by kernel_rfl) rfl rfl trivial (fun hHeld => ?_); refine with_tabW laws_FnPicks.tab11 laws_FnPicks.bits11 (fun HT_ HW_ => ?_)
     generalize wr.drew = w30 at HO_4 HO_5 HO_444000 BK443 HB hHeld ⊢
     refine pI_ 0 53 (bqz 17 1) ?_
     refine jI_ 1 54 ?_
     refine jU_ 2 55 ?_
     refine jU_ 3 56 ?_
     refine jU_ 4 57 ?_
     refine jU_ 5 58 ?_
     refine jU_ 6 59 ?_
     refine jU_ 7 60 ?_
     refine jU_ 8 61 ?_
     refine jU_ 9 62 ?_
     refine jU_ 10 63 ?_
     refine jU_ 11 64 ?_
     refine jU_ 12 65 ?_
     refine jU_ 13 66 ?_
     refine jU_ 14 67 ?_
     refine jI_ 15 68 ?_
     refine jI_ 16 7 ?_
     refine done_ (done_of HT_.out (by kernel_rfl)) ?_
     try go_wp2
     go_roundg k2
     case measure => have := HJ5.out; have := HK2.out; omega
     case rel => exact ⟨(false), (wrap64 (x8_2 + 1)), qz5, qz5, H', ⟨by have := HJ5.out; have := HK2.out; omega⟩, ⟨rm_ HO_4.out⟩, ⟨rm_ HO_5.out⟩, ⟨by (with_reducible repeat (first | apply Kd.N_alloc | apply Kd.N_drewN | apply Kd.N_drew)); (first | exact HO_444000.out | exact Kd.R_mono HO_444000.out (fun _ h_ => h_.1) | exact Kd.R_mono HO_444000.out (fun _ h_ => h_.2))⟩, ⟨bk_ BK443.out⟩, ⟨qz1⟩⟩
     }
     }
     {
     rw [if_neg c24] at H
     have c24b0 := decide_eq_false c24
     clear c24
     by_cases c31 : (t447 != x7_2) = true
     {
     rw [if_pos c31] at H
     have c31b0 : (t447 != x7_2) = true := c31
     (try (have c31b1 : decide (t447 = x7_2) = false := by simpa using c31))
     (try (have c31b2 : (t447 == x7_2) = false := by simpa using c31))
     (try (have c31b3 : ¬ (t447 = x7_2) := by simpa using c31))
     clear c31
     obtain rfl := Option.some.inj H
     exact absurd HTR_.out (by decide)
     }
     {
     rw [if_neg c31] at H
     have c31b0 : (t447 != x7_2) = false := by simpa using c31
     (try (have c31b1 : decide (t447 = x7_2) = true := by simpa using c31))
     (try (have c31b2 : (t447 == x7_2) = true := by simpa using c31))
     clear c31
     by_cases c32 : t447 = true
     {
     subst c32
     rw [if_pos rfl] at H
     have H' := aM H
     clear H
     go_wp2
     go_loopg [9] k2 (fun kq v9 w' => ∃ (x9_3 : Int), v9 = .int .i64 x9_3 ∧ Aside0 (laws_FnPicks.l1 kq t440 t444 x9_3 t437 = some r) ∧ Aside0 (kq ≤ k2) ∧ Aside0 (Kd.R k48 48 w' w.heap.size (fun _ => True) (.slice Ao11 t440.length co11) t440) ∧ Aside0 (Kd.R k50 50 w' w.heap.size (fun _ => True) v445 t444) ∧ Aside0 (Kd.N k79 79 w' w.heap.size (fun k_ => some k_ ≠ ((.slice Ao11 t440.length co11) : Value).ownBlock ∧ some k_ ≠ (v445 : Value).ownBlock ∧ k_ ≠ gb443) (.slice Ao9 t437.length co9) t437) ∧ Aside0 (w'.heap[gb443]? = some (.cells #[(.slice Ao9 t437.length co9)] 26 (0, 0))) ∧ Aside0 (Below w.heap.size w w'))
     case atStart => exact ⟨(0), qz5, H', ⟨Nat.le_refl _⟩, ⟨rr_ HO_4.out⟩, ⟨rr_ HO_5.out⟩, ⟨by (with_reducible repeat (first | apply Kd.N_alloc | apply Kd.N_drewN | apply Kd.N_drew)); exact HO_444000.out⟩, ⟨bk_ BK443.out⟩, ⟨qz1⟩⟩
     case round =>
      clear H'
      try clear c1
      try clear c2
      try clear p2
      try clear c3
      try clear p4
      try clear q4
      try clear hx4
      try clear p6
      try clear c9
      try clear c14
      try clear c15
      try clear c21
      try clear c22
      try clear c24
      try clear c24b0
      try clear c25
      try clear c26
      try clear c26b0
      try clear c31
      try clear c31b0
      try clear c31b1
      try clear c31b2
      try clear c32
      try clear hcz10_0
      try clear hcz16_0
      try clear hcz19_0
      try clear hfz10_0
      try clear hfz16_0
      try clear hfz19_0
      try clear hx450_0
      try clear hx450_1
      try clear hx452_0
      try clear hx452_1
      try clear p2
      try clear p450
      try clear p452
      try clear q450
      try clear q452
      obtain ⟨x9_3, rfl, HA, HK3, HO_4, HO_5, HO_444000, BK443, HB⟩ := hrel
      cases gk with
      | zero => exact absurd HA.out (by simp [laws_FnPicks.l1])
      | succ k3 =>
       have H := HA.out
       clear HA
       simp only [laws_FnPicks.l1] at H
       by_cases c33 : x9_3 < (t440.length : Int)
       {
       rw [if_pos c33] at H
       have c33b0 := decide_eq_true c33
       clear c33
       have H' := aM H
       clear H
       go_wp2
       go_loopg [10, 11] k3 (fun kq v10 v11 w' => ∃ (x10_4 : Int) (x11_4 : Int), v10 = .int .i64 x10_4 ∧ v11 = .int .i64 x11_4 ∧ Aside0 (laws_FnPicks.l2 kq t440 t444 x9_3 x10_4 x11_4 t437 = some r) ∧ Aside0 (kq ≤ k3) ∧ Aside0 (Kd.R k48 48 w' w.heap.size (fun _ => True) (.slice Ao11 t440.length co11) t440) ∧ Aside0 (Kd.R k50 50 w' w.heap.size (fun _ => True) v445 t444) ∧ Aside0 (Kd.N k79 79 w' w.heap.size (fun k_ => some k_ ≠ ((.slice Ao11 t440.length co11) : Value).ownBlock ∧ some k_ ≠ (v445 : Value).ownBlock ∧ k_ ≠ gb443) (.slice Ao9 t437.length co9) t437) ∧ Aside0 (w'.heap[gb443]? = some (.cells #[(.slice Ao9 t437.length co9)] 26 (0, 0))) ∧ Aside0 (Below w.heap.size w w'))
       case atStart => exact ⟨(0), (0), qz5, qz5, H', ⟨Nat.le_refl _⟩, ⟨rr_ HO_4.out⟩, ⟨rr_ HO_5.out⟩, ⟨by (with_reducible repeat (first | apply Kd.N_alloc | apply Kd.N_drewN | apply Kd.N_drew)); exact HO_444000.out⟩, ⟨bk_ BK443.out⟩, ⟨qz1⟩⟩
       case round =>
        clear H'
        try clear c1
        try clear c2
        try clear p2
        try clear c3
        try clear p4
        try clear q4
        try clear hx4
        try clear p6
        try clear c9
        try clear c14
        try clear c15
        try clear c21
        try clear c22
        try clear c24
        try clear c24b0
        try clear c25
        try clear c26
        try clear c26b0
        try clear c31
        try clear c31b0
        try clear c31b1
        try clear c31b2
        try clear c32
        try clear c33
        try clear c33b0
        try clear hcz10_0
        try clear hcz16_0
        try clear hcz19_0
        try clear hfz10_0
        try clear hfz16_0
        try clear hfz19_0
        try clear hx450_0
        try clear hx450_1
        try clear hx452_0
        try clear hx452_1
        try clear p2
        try clear p4
        try clear p450
        try clear p452
        try clear p6
        try clear q4
        try clear q450
        try clear q452
        obtain ⟨x10_4, x11_4, rfl, rfl, HA, HK4, HO_4, HO_5, HO_444000, BK443, HB⟩ := hrel
        cases gk with
        | zero => exact absurd HA.out (by simp [laws_FnPicks.l2])
        | succ k4 =>
         have H := HA.out
         clear HA
         simp only [laws_FnPicks.l2] at H
         by_cases c34 : x11_4 < (t444.length : Int)
         {
         rw [if_pos c34] at H
         have c34b0 := decide_eq_true c34
         clear c34
         by_cases c35 : 0 ≤ x11_4
         {
         rw [if_pos c35] at H
         have c35b0 := decide_eq_true c35
         clear c35
         by_cases c36 : 0 ≤ x9_3
         {
         rw [if_pos c36] at H
         have c36b0 := decide_eq_true c36
         clear c36
         by_cases c37 : x9_3 < (t440.length : Int)
         {
         rw [if_pos c37] at H
         have c37b0 := decide_eq_true c37
         clear c37
         by_cases c38 : ((rd_T50 t444 x11_4).f1) = ((rd_T48 t440 x9_3).f0)
         {
         rw [if_pos c38] at H
         have c38b0 := beq_iff_eq.mpr c38
         have c38b1 := bne_eq_false_iff_eq.mpr c38
         clear c38
         have H' := aM H
         clear H
         obtain ⟨Ao39, co39, eo39⟩ := Kd.R_slice HO_5.out
         subst eo39
         try go_wp2
         replace HO_4 := aM (Kd.R_drew HO_4.out)
         replace HO_5 := aM (Kd.R_drew HO_5.out)
         replace HO_444000 := aM (Kd.N_drew HO_444000.out)
         replace BK443 := aM (blk_drew BK443.out)
         replace HB := aM (below_drew1 HB.out)
         have p453 : 0 ≤ (x11_4 : Int) := dt_
         have q453 : x11_4 < (t444.length : Int) := dt_
         obtain ⟨ad453, e453, hx453_0, hx453_1, hx453_2⟩ := at_T50 (Kd.R_reads' HO_5.out).2.2 x11_4 p453 q453
         cases e453
         replace p453 := eq_true p453
         replace q453 := eq_true q453
         have p454 : 0 ≤ (x9_3 : Int) := dt_
         have q454 : x9_3 < (t440.length : Int) := dt_
         obtain ⟨ad454, e454, hx454_0, hx454_1⟩ := at_T48 (Kd.R_reads' HO_4.out).2.2 x9_3 p454 q454
         cases e454
         replace p454 := eq_true p454
         replace q454 := eq_true q454
         refine start_ (n := 11) (S := fun w' => w'.cell? (ad453.add ((x11_4).toNat * 3)) = some (.int .i64 ((rd_T50 t444 x11_4).f0)) ∧ w'.cell? ⟨(ad453.add ((x11_4).toNat * 3)).block, (ad453.add ((x11_4).toNat * 3)).off + 1, none⟩ = some (.int .i64 ((rd_T50 t444 x11_4).f1)) ∧ w'.cell? ⟨(ad453.add ((x11_4).toNat * 3)).block, (ad453.add ((x11_4).toNat * 3)).off + 2, none⟩ = some (.int .i64 ((rd_T50 t444 x11_4).f2)) ∧ w'.cell? (ad454.add ((x9_3).toNat * 2)) = some (.int .i64 ((rd_T48 t440 x9_3).f0)) ∧ w'.cell? ⟨(ad454.add ((x9_3).toNat * 2)).block, (ad454.add ((x9_3).toNat * 2)).off + 1, none⟩ = some (.int .i64 ((rd_T48 t440 x9_3).f1))) (ds := []) #[false, false, false, false, false, false, false, false, false, false, false] (by kernel_rfl) rfl rfl ⟨hx453_0, hx453_1, hx453_2, hx454_0, hx454_1⟩ (fun hHeld => ?_); refine with_tabW laws_FnPicks.tab23 laws_FnPicks.bits23 (fun HT_ HW_ => ?_)
         generalize wr.drew = w40 at HO_4 HO_5 HO_444000 BK443 HB hx453_0 hx453_1 hx453_2 hx454_0 hx454_1 hHeld ⊢
         refine pI_ 0 89 (bqz 11 1) ?_
         refine jI_ 1 90 ?_
         refine jI_ 2 91 ?_
         refine jI_ 3 92 ?_
         refine jI_ 5 94 ?_
         refine jI_ 6 95 ?_
         refine jI_ 7 96 ?_
         refine jI_ 8 97 ?_
         refine sI5_ 4 93 ?_
         refine sI5_ 9 98 ?_
         refine jI_ 10 99 ?_
         refine done_ (done_of HT_.out (by kernel_rfl)) ?_
         have p455 : 0 ≤ (x11_4 : Int) := dt_
         have q455 : x11_4 < (t444.length : Int) := dt_
         obtain ⟨ad455, e455, hx455_0, hx455_1, hx455_2⟩ := at_T50 (Kd.R_reads' HO_5.out).2.2 x11_4 p455 q455
         obtain rfl : ad453 = ad455 := (by injection e455)
         replace p455 := eq_true p455
         replace q455 := eq_true q455
         try go_wp2
         go_roundg k4
         case measure => have := HJ5.out; have := HK2.out; have := HK3.out; have := HK4.out; omega
         case rel => exact ⟨(wrap64 (x10_4 + ((rd_T50 t444 x11_4).f2))), (wrap64 (x11_4 + 1)), qz5, qz5, H', ⟨by have := HJ5.out; have := HK2.out; have := HK3.out; have := HK4.out; omega⟩, ⟨rm_ HO_4.out⟩, ⟨rm_ HO_5.out⟩, ⟨by (with_reducible repeat (first | apply Kd.N_alloc | apply Kd.N_drewN | apply Kd.N_drew)); (first | exact HO_444000.out | exact Kd.R_mono HO_444000.out (fun _ h_ => h_.1) | exact Kd.R_mono HO_444000.out (fun _ h_ => h_.2))⟩, ⟨bk_ BK443.out⟩, ⟨qz1⟩⟩
         }
         {
         rw [if_neg c38] at H
         have c38b0 := beq_eq_false_iff_ne.mpr c38
         have c38b1 := bne_iff_ne.mpr c38
         have H' := aM H
         clear H
         obtain ⟨Ao41, co41, eo41⟩ := Kd.R_slice HO_5.out
         subst eo41
         try go_wp2
         replace HO_4 := aM (Kd.R_drew HO_4.out)
         replace HO_5 := aM (Kd.R_drew HO_5.out)
         replace HO_444000 := aM (Kd.N_drew HO_444000.out)
         replace BK443 := aM (blk_drew BK443.out)
         replace HB := aM (below_drew1 HB.out)
         have p453 : 0 ≤ (x11_4 : Int) := dt_
         have q453 : x11_4 < (t444.length : Int) := dt_
         obtain ⟨ad453, e453, hx453_0, hx453_1, hx453_2⟩ := at_T50 (Kd.R_reads' HO_5.out).2.2 x11_4 p453 q453
         cases e453
         replace p453 := eq_true p453
         replace q453 := eq_true q453
         have p454 : 0 ≤ (x9_3 : Int) := dt_
         have q454 : x9_3 < (t440.length : Int) := dt_
         obtain ⟨ad454, e454, hx454_0, hx454_1⟩ := at_T48 (Kd.R_reads' HO_4.out).2.2 x9_3 p454 q454
         cases e454
         replace p454 := eq_true p454
         replace q454 := eq_true q454
         refine start_ (n := 11) (S := fun w' => w'.cell? (ad453.add ((x11_4).toNat * 3)) = some (.int .i64 ((rd_T50 t444 x11_4).f0)) ∧ w'.cell? ⟨(ad453.add ((x11_4).toNat * 3)).block, (ad453.add ((x11_4).toNat * 3)).off + 1, none⟩ = some (.int .i64 ((rd_T50 t444 x11_4).f1)) ∧ w'.cell? ⟨(ad453.add ((x11_4).toNat * 3)).block, (ad453.add ((x11_4).toNat * 3)).off + 2, none⟩ = some (.int .i64 ((rd_T50 t444 x11_4).f2)) ∧ w'.cell? (ad454.add ((x9_3).toNat * 2)) = some (.int .i64 ((rd_T48 t440 x9_3).f0)) ∧ w'.cell? ⟨(ad454.add ((x9_3).toNat * 2)).block, (ad454.add ((x9_3).toNat * 2)).off + 1, none⟩ = some (.int .i64 ((rd_T48 t440 x9_3).f1))) (ds := []) #[false, false, false, false, false, false, false, false, false, false, false] (by kernel_rfl) rfl rfl ⟨hx453_0, hx453_1, hx453_2, hx454_0, hx454_1⟩ (fun hHeld => ?_); refine with_tabW laws_FnPicks.tab23 laws_FnPicks.bits23 (fun HT_ HW_ => ?_)
         generalize wr.drew = w42 at HO_4 HO_5 HO_444000 BK443 HB hx453_0 hx453_1 hx453_2 hx454_0 hx454_1 hHeld ⊢
         refine pI_ 0 89 (bqz 11 1) ?_
         refine jI_ 1 90 ?_
         refine jI_ 2 91 ?_
         refine jI_ 3 92 ?_
         refine jI_ 5 94 ?_
         refine jI_ 6 95 ?_
         refine jI_ 7 96 ?_
         refine jI_ 8 97 ?_
         refine sI5_ 4 93 ?_
         refine sI5_ 9 98 ?_
         refine jI_ 10 99 ?_
         refine done_ (done_of HT_.out (by kernel_rfl)) ?_
         try go_wp2
         go_roundg k4
         case measure => have := HJ5.out; have := HK2.out; have := HK3.out; have := HK4.out; omega
         case rel => exact ⟨(x10_4), (wrap64 (x11_4 + 1)), qz5, qz5, H', ⟨by have := HJ5.out; have := HK2.out; have := HK3.out; have := HK4.out; omega⟩, ⟨rm_ HO_4.out⟩, ⟨rm_ HO_5.out⟩, ⟨by (with_reducible repeat (first | apply Kd.N_alloc | apply Kd.N_drewN | apply Kd.N_drew)); (first | exact HO_444000.out | exact Kd.R_mono HO_444000.out (fun _ h_ => h_.1) | exact Kd.R_mono HO_444000.out (fun _ h_ => h_.2))⟩, ⟨bk_ BK443.out⟩, ⟨qz1⟩⟩
         }
         }
         {
         exact an_ c37 H
         }
         }
         {
         exact an_ c36 H
         }
         }
         {
         exact an_ c35 H
         }
         }
         {
         rw [if_neg c34] at H
         have c34b0 := decide_eq_false c34
         clear c34
         by_cases c43 : 0 ≤ x9_3
         {
         rw [if_pos c43] at H
         have c43b0 := decide_eq_true c43
         clear c43
         by_cases c44 : x9_3 < (t440.length : Int)
         {
         rw [if_pos c44] at H
         have c44b0 := decide_eq_true c44
         clear c44
         by_cases c45 : x10_4 = ((rd_T48 t440 x9_3).f1)
         {
         rw [if_pos c45] at H
         have c45b0 := beq_iff_eq.mpr c45
         have c45b1 := bne_eq_false_iff_eq.mpr c45
         clear c45
         have H' := aM H
         clear H
         obtain ⟨Ao46, co46, eo46⟩ := Kd.R_slice HO_5.out
         subst eo46
         have p456 : 0 ≤ (x9_3 : Int) := dt_
         have q456 : x9_3 < (t440.length : Int) := dt_
         obtain ⟨ad456, e456, hx456_0, hx456_1⟩ := at_T48 (Kd.R_reads' HO_4.out).2.2 x9_3 p456 q456
         cases e456
         replace p456 := eq_true p456
         replace q456 := eq_true q456
         go_wp2
         go_roundg k4
         case measure => have := HJ5.out; have := HK2.out; have := HK3.out; have := HK4.out; omega
         case rel => exact ⟨(wrap64 (x9_3 + 1)), qz5, H', ⟨by have := HJ5.out; have := HK2.out; have := HK3.out; have := HK4.out; omega⟩, ⟨rm_ HO_4.out⟩, ⟨rm_ HO_5.out⟩, ⟨by (with_reducible repeat (first | apply Kd.N_alloc | apply Kd.N_drewN | apply Kd.N_drew)); (first | exact HO_444000.out | exact Kd.R_mono HO_444000.out (fun _ h_ => h_.1) | exact Kd.R_mono HO_444000.out (fun _ h_ => h_.2))⟩, ⟨bk_ BK443.out⟩, ⟨qz1⟩⟩
         }
         {
         rw [if_neg c45] at H
         have c45b0 := beq_eq_false_iff_ne.mpr c45
         have c45b1 := bne_iff_ne.mpr c45
         obtain rfl := Option.some.inj H
         exact absurd HTR_.out (by decide)
         }
         }
         {
         exact an_ c44 H
         }
         }
         {
         exact an_ c43 H
         }
         }
       }
       {
       rw [if_neg c33] at H
       have c33b0 := decide_eq_false c33
       clear c33
       replace H := Option.bind_eq_some_iff.mp H
       obtain ⟨⟨t457, t460⟩, A470, H⟩ := H
       replace H : ((impl_ReleaseAll.f k3 t457 t444).bind fun bt462 => ((impl_TakeAll.f k3 t457 t444).bind fun bt467 => (laws_FnPicks.l3 k3 t440 t444 t460 bt462.2 bt467.2 0 t437 bt462.1 bt467.1))) = some r := H
       have A47 := aM A470
       clear A470
       replace H := Option.bind_eq_some_iff.mp H
       obtain ⟨⟨t462, t465⟩, A480, H⟩ := H
       replace H : ((impl_TakeAll.f k3 t457 t444).bind fun bt467 => (laws_FnPicks.l3 k3 t440 t444 t460 t465 bt467.2 0 t437 t462 bt467.1)) = some r := H
       have A48 := aM A480
       clear A480
       replace H := Option.bind_eq_some_iff.mp H
       obtain ⟨⟨t467, t470⟩, A490, H⟩ := H
       replace H : (laws_FnPicks.l3 k3 t440 t444 t460 t465 t470 0 t437 t462 t467) = some r := H
       have A49 := aM A490
       clear A490
       have H' := aM H
       clear H
       obtain ⟨hcz50_0, hfz50_0⟩ := bf_ BK443.out
       obtain ⟨Ao51, co51, eo51⟩ := Kd.R_slice HO_5.out
       subst eo51
       go_wp2_with (first | ((with_reducible refine gate_callee (f := 39) rfl ?_); refine goesL_ (some 117) rfl rfl Try.func39 (by kernel_rfl) rfl #[.agg #[.slice Ao9 t437.length co9], .slice Ao51 t444.length co51] rfl qz4 ?_; (with_reducible refine (impl_HoldAll.calls k3 _ _ t437 _ _ t444 t457 t460 _ ?side1 ?side2 ?side3 ?side4 A47.out).mono ?_); (case side1 => exact qz18); (case side2 => exact (Kd.N_reads' HO_444000.out).2.1); (case side3 => repeat (first | exact (Kd.R_reads' HO_5.out).2.2 | (with_reducible refine Kd.C_alloc ?_ _) | (with_reducible refine Kd.C_drewN ?_ _) | (with_reducible refine Kd.C_drew ?_))); (case side4 => exact (Kd.R_reads' HO_5.out).2.1); rintro e w52 ⟨v458, rfl, ho0, hb⟩; refine ⟨_, rfl, ?_⟩; have HO459 := aM (Kd.N_lower (Kd.N_mono (ok' := fun k_ => some k_ ≠ (.slice Ao11 t440.length co11 : Value).ownBlock ∧ some k_ ≠ (.slice Ao51 t444.length co51 : Value).ownBlock ∧ some k_ ≠ (.slice Ao9 t437.length co9 : Value).ownBlock ∧ k_ ≠ gb443) (Kd.S_N (Kd.S_bound ho0)) (fun k_ hk_ => ⟨(Kd.fresh' (Kd.R_lt (rr_ HO_4.out)) k_ hk_.2.1), (Kd.fresh' (Kd.R_lt (rr_ HO_5.out)) k_ hk_.2.1), (Kd.fresh' (Kd.N_lt qz13) k_ hk_.2.1), (Kd.freshB (bk_ BK443.out) k_ hk_.2.1)⟩)) (below_size qz1)); replace HO_4 := aM (Kd.R_below (rr_ HO_4.out) hb); replace HO_5 := aM (Kd.R_below (rr_ HO_5.out) hb); replace HO_444000 := aM (Kd.N_elder' qz13 (Kd.S_base ho0) hb); replace BK443 := bB_ BK443 hb; replace HB := bS_ hb; (try clear hb); (try clear hb2); (try clear hk); (try clear hi); (try clear ho0)) | ((with_reducible refine gate_dst (N := 12) rfl ?_); (try (refine gate_guard (by rfl) ?_; dsimp only)); refine bx_ 12 #[.slice none 0 0] 26 ?_; intro gb461 hg w53 hbox hb; replace HO_4 := aM (Kd.R_below (rr_ HO_4.out) hb); replace HO_5 := aM (Kd.R_below (rr_ HO_5.out) hb); replace HO_444000 := aM (Kd.N_below (Kd.N_elderB qz13 gb461 (Nat.le_of_eq hg.symm)) hb); replace HO459 := aM (Kd.N_below (Kd.N_elderB qz30 gb461 (Nat.le_of_eq hg.symm)) hb); have BK461 := aM (hbox); have GW461 := aM (bz_ w hg qz1); have GE461 := GW461; replace HB := bS_ hb; obtain ⟨NB443_461, NB461_443⟩ := nb_ hg (bk_ BK443.out); replace BK443 := bB_ BK443 hb; clear hb hbox hg; obtain ⟨Ao54, co54, eo54⟩ := Kd.N_slice HO459.out; subst eo54; have hnb55 := NB461_443.out; have hnc55 := NB443_461.out; obtain ⟨hcz56_0, hfz56_0⟩ := bf_ BK461.out) | ((with_reducible refine gate_callee (f := 40) rfl ?_); refine goesL_ (some 123) rfl rfl Try.func40 (by kernel_rfl) rfl #[.agg #[.slice Ao54 t457.length co54], .slice Ao51 t444.length co51] rfl qz4 ?_; (with_reducible refine (impl_ReleaseAll.calls k3 _ _ t457 _ _ t444 t462 t465 _ ?side1 ?side2 ?side3 ?side4 A48.out).mono ?_); (case side1 => refine (Kd.N_reads' (e := 79) (base := w.heap.size) (ok := fun k_ => ((some k_ ≠ (.slice Ao11 t440.length co11 : Value).ownBlock ∧ (some k_ ≠ (.slice Ao51 t444.length co51 : Value).ownBlock ∧ (some k_ ≠ (.slice Ao9 t437.length co9 : Value).ownBlock ∧ k_ ≠ gb443))) ∧ k_ ≠ gb461)) (n := t457.length) (c := co54) ?_).2.2; exact (by (with_reducible repeat (first | apply Kd.N_alloc | apply Kd.N_drewN | apply Kd.N_drew)); exact (Kd.N_mono (Kd.N_far (p := ⟨gb461, 0, none⟩) (Kd.N_mono HO459.out (fun k_ hk => (⟨hk, hk.2⟩ : _ ∧ k_ ≠ gb461))) (fun _ hk => hk.2) (.slice Ao54 t457.length co54)) (fun _ h_ => h_.1)))); (case side2 => exact (Kd.N_reads' HO459.out).2.1); (case side3 => refine (Kd.R_reads' (e := 50) (base := w.heap.size) (ok := fun k_ => True) (n := t444.length) (c := co51) ?_).2.2; exact (by (with_reducible repeat (first | apply Kd.R_alloc | apply Kd.R_drewN | apply Kd.R_drew)); exact (Kd.R_mono (Kd.R_far (p := ⟨gb461, 0, none⟩) (Kd.R_types HO_5.out BK461.out (by decide)) (fun _ hk => hk.2) (.slice Ao54 t457.length co54)) (fun _ h_ => h_.1)))); (case side4 => exact (Kd.R_reads' HO_5.out).2.1); rintro e w57 ⟨v463, rfl, ho0, hb⟩; refine ⟨_, rfl, ?_⟩; have HO464 := aM (Kd.N_lower (Kd.N_mono (ok' := fun k_ => some k_ ≠ (.slice Ao11 t440.length co11 : Value).ownBlock ∧ some k_ ≠ (.slice Ao51 t444.length co51 : Value).ownBlock ∧ some k_ ≠ (.slice Ao9 t437.length co9 : Value).ownBlock ∧ some k_ ≠ (.slice Ao54 t457.length co54 : Value).ownBlock ∧ k_ ≠ gb443 ∧ k_ ≠ gb461) (Kd.S_N (Kd.S_bound ho0)) (fun k_ hk_ => ⟨(Kd.fresh' (Kd.R_lt (by (with_reducible repeat (first | apply Kd.R_alloc | apply Kd.R_drewN | apply Kd.R_drew)); exact (Kd.R_mono (Kd.R_far (p := ⟨gb461, 0, none⟩) (Kd.R_types HO_4.out BK461.out (by decide)) (fun _ hk => hk.2) (.slice Ao54 t457.length co54)) (fun _ h_ => h_.1)))) k_ hk_.2.1), (Kd.fresh' (Kd.R_lt (by (with_reducible repeat (first | apply Kd.R_alloc | apply Kd.R_drewN | apply Kd.R_drew)); exact (Kd.R_mono (Kd.R_far (p := ⟨gb461, 0, none⟩) (Kd.R_types HO_5.out BK461.out (by decide)) (fun _ hk => hk.2) (.slice Ao54 t457.length co54)) (fun _ h_ => h_.1)))) k_ hk_.2.1), (Kd.fresh' (Kd.N_lt (by (with_reducible repeat (first | apply Kd.N_alloc | apply Kd.N_drewN | apply Kd.N_drew)); exact (Kd.N_mono (Kd.N_far (p := ⟨gb461, 0, none⟩) (Kd.N_mono HO_444000.out (fun k_ hk => (⟨hk, hk.2⟩ : _ ∧ k_ ≠ gb461))) (fun _ hk => hk.2) (.slice Ao54 t457.length co54)) (fun _ h_ => h_.1)))) k_ hk_.2.1), (Kd.fresh' (Kd.N_lt (by (with_reducible repeat (first | apply Kd.N_alloc | apply Kd.N_drewN | apply Kd.N_drew)); exact (Kd.N_mono (Kd.N_far (p := ⟨gb461, 0, none⟩) (Kd.N_mono HO459.out (fun k_ hk => (⟨hk, hk.2⟩ : _ ∧ k_ ≠ gb461))) (fun _ hk => hk.2) (.slice Ao54 t457.length co54)) (fun _ h_ => h_.1)))) k_ hk_.2.1), (Kd.freshB (g := gb443) (o := .cells #[.slice Ao9 t437.length co9] 26 (0, 0)) (bk2_ BK443.out) k_ hk_.2.1), (Kd.freshB (g := gb461) (o := .cells #[.slice Ao54 t457.length co54] 26 (0, 0)) (by (with_reducible repeat (first | refine blk_drewN ?_ _ | refine blk_drew ?_ | refine blk_alloc ?_ _)); refine blk_put (cs := #[.slice none 0 0]) ?_ 0 _ rfl; exact bk_ BK461.out) k_ hk_.2.1)⟩)) (below_size qz1)); replace HO_4 := aM (Kd.R_below (by (with_reducible repeat (first | apply Kd.R_alloc | apply Kd.R_drewN | apply Kd.R_drew)); exact (Kd.R_mono (Kd.R_far (p := ⟨gb461, 0, none⟩) (Kd.R_types HO_4.out BK461.out (by decide)) (fun _ hk => hk.2) (.slice Ao54 t457.length co54)) (fun _ h_ => h_.1))) hb); replace HO_5 := aM (Kd.R_below (by (with_reducible repeat (first | apply Kd.R_alloc | apply Kd.R_drewN | apply Kd.R_drew)); exact (Kd.R_mono (Kd.R_far (p := ⟨gb461, 0, none⟩) (Kd.R_types HO_5.out BK461.out (by decide)) (fun _ hk => hk.2) (.slice Ao54 t457.length co54)) (fun _ h_ => h_.1))) hb); replace HO_444000 := aM (Kd.N_elder' (by (with_reducible repeat (first | apply Kd.N_alloc | apply Kd.N_drewN | apply Kd.N_drew)); exact (Kd.N_mono (Kd.N_far (p := ⟨gb461, 0, none⟩) (Kd.N_mono HO_444000.out (fun k_ hk => (⟨hk, hk.2⟩ : _ ∧ k_ ≠ gb461))) (fun _ hk => hk.2) (.slice Ao54 t457.length co54)) (fun _ h_ => h_.1))) (Kd.S_base ho0) hb); replace HO459 := aM (Kd.N_elder' (by (with_reducible repeat (first | apply Kd.N_alloc | apply Kd.N_drewN | apply Kd.N_drew)); exact (Kd.N_mono (Kd.N_far (p := ⟨gb461, 0, none⟩) (Kd.N_mono HO459.out (fun k_ hk => (⟨hk, hk.2⟩ : _ ∧ k_ ≠ gb461))) (fun _ hk => hk.2) (.slice Ao54 t457.length co54)) (fun _ h_ => h_.1))) (Kd.S_base ho0) hb); replace BK443 := aM (blk_below (g := gb443) (o := .cells #[.slice Ao9 t437.length co9] 26 (0, 0)) (bk2_ BK443.out) hb); replace BK461 := aM (blk_below (g := gb461) (o := .cells #[.slice Ao54 t457.length co54] 26 (0, 0)) (by (with_reducible repeat (first | refine blk_drewN ?_ _ | refine blk_drew ?_ | refine blk_alloc ?_ _)); refine blk_put (cs := #[.slice none 0 0]) ?_ 0 _ rfl; exact bk_ BK461.out) hb); replace HB := bS_ hb; (try clear hb); (try clear hb2); (try clear hk); (try clear hi); (try clear ho0)) | ((with_reducible refine gate_dst (N := 14) rfl ?_); (try (refine gate_guard (by rfl) ?_; dsimp only)); refine bx_ 14 #[.slice none 0 0] 26 ?_; intro gb466 hg w58 hbox hb; replace HO_4 := aM (Kd.R_below (rr_ HO_4.out) hb); replace HO_5 := aM (Kd.R_below (rr_ HO_5.out) hb); replace HO_444000 := aM (Kd.N_below (Kd.N_elderB qz13 gb466 (Nat.le_of_eq hg.symm)) hb); replace HO459 := aM (Kd.N_below (Kd.N_elderB qz30 gb466 (Nat.le_of_eq hg.symm)) hb); replace HO464 := aM (Kd.N_below (Kd.N_elderB (by (with_reducible repeat (first | apply Kd.N_alloc | apply Kd.N_drewN | apply Kd.N_drew)); exact HO464.out) gb466 (Nat.le_of_eq hg.symm)) hb); have BK466 := aM (hbox); have GW466 := aM (bz_ w hg qz1); have GE466 := GW466; replace HB := bS_ hb; obtain ⟨NB443_466, NB466_443⟩ := nb_ hg (bk_ BK443.out); replace BK443 := bB_ BK443 hb; obtain ⟨NB461_466, NB466_461⟩ := nb_ hg (bk_ BK461.out); replace BK461 := bB_ BK461 hb; clear hb hbox hg; obtain ⟨Ao59, co59, eo59⟩ := Kd.N_slice HO464.out; subst eo59; have hnb60 := NB466_443.out; have hnc60 := NB443_466.out; have hnb61 := NB466_461.out; have hnc61 := NB461_466.out; obtain ⟨hcz62_0, hfz62_0⟩ := bf_ BK466.out; obtain ⟨hcz63_0, hfz63_0⟩ := bf_ BK461.out) | ((with_reducible refine gate_callee (f := 41) rfl ?_); refine goesL_ (some 129) rfl rfl Try.func41 (by kernel_rfl) rfl #[.agg #[.slice Ao54 t457.length co54], .slice Ao51 t444.length co51] rfl qz4 ?_; (with_reducible refine (impl_TakeAll.calls k3 _ _ t457 _ _ t444 t467 t470 _ ?side1 ?side2 ?side3 ?side4 A49.out).mono ?_); (case side1 => refine (Kd.N_reads' (e := 79) (base := w.heap.size) (ok := fun k_ => ((((some k_ ≠ (.slice Ao11 t440.length co11 : Value).ownBlock ∧ (some k_ ≠ (.slice Ao51 t444.length co51 : Value).ownBlock ∧ (some k_ ≠ (.slice Ao9 t437.length co9 : Value).ownBlock ∧ k_ ≠ gb443))) ∧ k_ ≠ gb461) ∧ some k_ ≠ (.slice Ao59 t462.length co59 : Value).ownBlock) ∧ k_ ≠ gb466)) (n := t457.length) (c := co54) ?_).2.2; exact (by (with_reducible repeat (first | apply Kd.N_alloc | apply Kd.N_drewN | apply Kd.N_drew)); exact (Kd.N_mono (Kd.N_far (p := ⟨gb466, 0, none⟩) (Kd.N_mono HO459.out (fun k_ hk => (⟨hk, hk.2⟩ : _ ∧ k_ ≠ gb466))) (fun _ hk => hk.2) (.slice Ao59 t462.length co59)) (fun _ h_ => h_.1)))); (case side2 => exact (Kd.N_reads' HO459.out).2.1); (case side3 => refine (Kd.R_reads' (e := 50) (base := w.heap.size) (ok := fun k_ => True) (n := t444.length) (c := co51) ?_).2.2; exact (by (with_reducible repeat (first | apply Kd.R_alloc | apply Kd.R_drewN | apply Kd.R_drew)); exact (Kd.R_mono (Kd.R_far (p := ⟨gb466, 0, none⟩) (Kd.R_types HO_5.out BK466.out (by decide)) (fun _ hk => hk.2) (.slice Ao59 t462.length co59)) (fun _ h_ => h_.1)))); (case side4 => exact (Kd.R_reads' HO_5.out).2.1); rintro e w64 ⟨v468, rfl, ho0, hb⟩; refine ⟨_, rfl, ?_⟩; have HO469 := aM (Kd.N_lower (Kd.N_mono (ok' := fun k_ => some k_ ≠ (.slice Ao11 t440.length co11 : Value).ownBlock ∧ some k_ ≠ (.slice Ao51 t444.length co51 : Value).ownBlock ∧ some k_ ≠ (.slice Ao9 t437.length co9 : Value).ownBlock ∧ some k_ ≠ (.slice Ao54 t457.length co54 : Value).ownBlock ∧ some k_ ≠ (.slice Ao59 t462.length co59 : Value).ownBlock ∧ k_ ≠ gb443 ∧ k_ ≠ gb461 ∧ k_ ≠ gb466) (Kd.S_N (Kd.S_bound ho0)) (fun k_ hk_ => ⟨(Kd.fresh' (Kd.R_lt (by (with_reducible repeat (first | apply Kd.R_alloc | apply Kd.R_drewN | apply Kd.R_drew)); exact (Kd.R_mono (Kd.R_far (p := ⟨gb466, 0, none⟩) (Kd.R_types HO_4.out BK466.out (by decide)) (fun _ hk => hk.2) (.slice Ao59 t462.length co59)) (fun _ h_ => h_.1)))) k_ hk_.2.1), (Kd.fresh' (Kd.R_lt (by (with_reducible repeat (first | apply Kd.R_alloc | apply Kd.R_drewN | apply Kd.R_drew)); exact (Kd.R_mono (Kd.R_far (p := ⟨gb466, 0, none⟩) (Kd.R_types HO_5.out BK466.out (by decide)) (fun _ hk => hk.2) (.slice Ao59 t462.length co59)) (fun _ h_ => h_.1)))) k_ hk_.2.1), (Kd.fresh' (Kd.N_lt (by (with_reducible repeat (first | apply Kd.N_alloc | apply Kd.N_drewN | apply Kd.N_drew)); exact (Kd.N_mono (Kd.N_far (p := ⟨gb466, 0, none⟩) (Kd.N_mono HO_444000.out (fun k_ hk => (⟨hk, hk.2⟩ : _ ∧ k_ ≠ gb466))) (fun _ hk => hk.2) (.slice Ao59 t462.length co59)) (fun _ h_ => h_.1)))) k_ hk_.2.1), (Kd.fresh' (Kd.N_lt (by (with_reducible repeat (first | apply Kd.N_alloc | apply Kd.N_drewN | apply Kd.N_drew)); exact (Kd.N_mono (Kd.N_far (p := ⟨gb466, 0, none⟩) (Kd.N_mono HO459.out (fun k_ hk => (⟨hk, hk.2⟩ : _ ∧ k_ ≠ gb466))) (fun _ hk => hk.2) (.slice Ao59 t462.length co59)) (fun _ h_ => h_.1)))) k_ hk_.2.1), (Kd.fresh' (Kd.N_lt (by (with_reducible repeat (first | apply Kd.N_alloc | apply Kd.N_drewN | apply Kd.N_drew)); exact (Kd.N_mono (Kd.N_far (p := ⟨gb466, 0, none⟩) (Kd.N_mono HO464.out (fun k_ hk => (⟨hk, hk.2⟩ : _ ∧ k_ ≠ gb466))) (fun _ hk => hk.2) (.slice Ao59 t462.length co59)) (fun _ h_ => h_.1)))) k_ hk_.2.1), (Kd.freshB (g := gb443) (o := .cells #[.slice Ao9 t437.length co9] 26 (0, 0)) (bk2_ BK443.out) k_ hk_.2.1), (Kd.freshB (g := gb461) (o := .cells #[.slice Ao54 t457.length co54] 26 (0, 0)) (bk2_ BK461.out) k_ hk_.2.1), (Kd.freshB (g := gb466) (o := .cells #[.slice Ao59 t462.length co59] 26 (0, 0)) (by (with_reducible repeat (first | refine blk_drewN ?_ _ | refine blk_drew ?_ | refine blk_alloc ?_ _)); refine blk_put (cs := #[.slice none 0 0]) ?_ 0 _ rfl; exact bk_ BK466.out) k_ hk_.2.1)⟩)) (below_size qz1)); replace HO_4 := aM (Kd.R_below (by (with_reducible repeat (first | apply Kd.R_alloc | apply Kd.R_drewN | apply Kd.R_drew)); exact (Kd.R_mono (Kd.R_far (p := ⟨gb466, 0, none⟩) (Kd.R_types HO_4.out BK466.out (by decide)) (fun _ hk => hk.2) (.slice Ao59 t462.length co59)) (fun _ h_ => h_.1))) hb); replace HO_5 := aM (Kd.R_below (by (with_reducible repeat (first | apply Kd.R_alloc | apply Kd.R_drewN | apply Kd.R_drew)); exact (Kd.R_mono (Kd.R_far (p := ⟨gb466, 0, none⟩) (Kd.R_types HO_5.out BK466.out (by decide)) (fun _ hk => hk.2) (.slice Ao59 t462.length co59)) (fun _ h_ => h_.1))) hb); replace HO_444000 := aM (Kd.N_elder' (by (with_reducible repeat (first | apply Kd.N_alloc | apply Kd.N_drewN | apply Kd.N_drew)); exact (Kd.N_mono (Kd.N_far (p := ⟨gb466, 0, none⟩) (Kd.N_mono HO_444000.out (fun k_ hk => (⟨hk, hk.2⟩ : _ ∧ k_ ≠ gb466))) (fun _ hk => hk.2) (.slice Ao59 t462.length co59)) (fun _ h_ => h_.1))) (Kd.S_base ho0) hb); replace HO459 := aM (Kd.N_elder' (by (with_reducible repeat (first | apply Kd.N_alloc | apply Kd.N_drewN | apply Kd.N_drew)); exact (Kd.N_mono (Kd.N_far (p := ⟨gb466, 0, none⟩) (Kd.N_mono HO459.out (fun k_ hk => (⟨hk, hk.2⟩ : _ ∧ k_ ≠ gb466))) (fun _ hk => hk.2) (.slice Ao59 t462.length co59)) (fun _ h_ => h_.1))) (Kd.S_base ho0) hb); replace HO464 := aM (Kd.N_elder' (by (with_reducible repeat (first | apply Kd.N_alloc | apply Kd.N_drewN | apply Kd.N_drew)); exact (Kd.N_mono (Kd.N_far (p := ⟨gb466, 0, none⟩) (Kd.N_mono HO464.out (fun k_ hk => (⟨hk, hk.2⟩ : _ ∧ k_ ≠ gb466))) (fun _ hk => hk.2) (.slice Ao59 t462.length co59)) (fun _ h_ => h_.1))) (Kd.S_base ho0) hb); replace BK443 := aM (blk_below (g := gb443) (o := .cells #[.slice Ao9 t437.length co9] 26 (0, 0)) (bk2_ BK443.out) hb); replace BK461 := aM (blk_below (g := gb461) (o := .cells #[.slice Ao54 t457.length co54] 26 (0, 0)) (bk2_ BK461.out) hb); replace BK466 := aM (blk_below (g := gb466) (o := .cells #[.slice Ao59 t462.length co59] 26 (0, 0)) (by (with_reducible repeat (first | refine blk_drewN ?_ _ | refine blk_drew ?_ | refine blk_alloc ?_ _)); refine blk_put (cs := #[.slice none 0 0]) ?_ 0 _ rfl; exact bk_ BK466.out) hb); replace HB := bS_ hb; (try clear hb); (try clear hb2); (try clear hk); (try clear hi); (try clear ho0)) | ((with_reducible refine gate_dst (N := 16) rfl ?_); (try (refine gate_guard (by rfl) ?_; dsimp only)); refine bx_ 16 #[.slice none 0 0] 26 ?_; intro gb471 hg w65 hbox hb; replace HO_4 := aM (Kd.R_below (rr_ HO_4.out) hb); replace HO_5 := aM (Kd.R_below (rr_ HO_5.out) hb); replace HO_444000 := aM (Kd.N_below (Kd.N_elderB qz13 gb471 (Nat.le_of_eq hg.symm)) hb); replace HO459 := aM (Kd.N_below (Kd.N_elderB qz30 gb471 (Nat.le_of_eq hg.symm)) hb); replace HO464 := aM (Kd.N_below (Kd.N_elderB (by (with_reducible repeat (first | apply Kd.N_alloc | apply Kd.N_drewN | apply Kd.N_drew)); exact HO464.out) gb471 (Nat.le_of_eq hg.symm)) hb); replace HO469 := aM (Kd.N_below (Kd.N_elderB (by (with_reducible repeat (first | apply Kd.N_alloc | apply Kd.N_drewN | apply Kd.N_drew)); exact HO469.out) gb471 (Nat.le_of_eq hg.symm)) hb); have BK471 := aM (hbox); have GW471 := aM (bz_ w hg qz1); have GE471 := GW471; replace HB := bS_ hb; obtain ⟨NB443_471, NB471_443⟩ := nb_ hg (bk_ BK443.out); replace BK443 := bB_ BK443 hb; obtain ⟨NB461_471, NB471_461⟩ := nb_ hg (bk_ BK461.out); replace BK461 := bB_ BK461 hb; obtain ⟨NB466_471, NB471_466⟩ := nb_ hg (bk_ BK466.out); replace BK466 := bB_ BK466 hb; clear hb hbox hg; obtain ⟨Ao66, co66, eo66⟩ := Kd.N_slice HO469.out; subst eo66; have hnb67 := NB471_443.out; have hnc67 := NB443_471.out; have hnb68 := NB471_461.out; have hnc68 := NB461_471.out; have hnb69 := NB471_466.out; have hnc69 := NB466_471.out; obtain ⟨hcz70_0, hfz70_0⟩ := bf_ BK471.out))
       go_loopg [18] k3 (fun kq v18 w' => ∃ (x18_4 : Int), v18 = .int .i64 x18_4 ∧ Aside0 (laws_FnPicks.l3 kq t440 t444 t460 t465 t470 x18_4 t437 t462 t467 = some r) ∧ Aside0 (kq ≤ k3) ∧ Aside0 (Kd.R k48 48 w' w.heap.size (fun _ => True) (.slice Ao11 t440.length co11) t440) ∧ Aside0 (Kd.R k50 50 w' w.heap.size (fun _ => True) (.slice Ao51 t444.length co51) t444) ∧ Aside0 (Kd.N k79 79 w' w.heap.size (fun k_ => some k_ ≠ ((.slice Ao11 t440.length co11) : Value).ownBlock ∧ some k_ ≠ ((.slice Ao51 t444.length co51) : Value).ownBlock ∧ some k_ ≠ ((.slice Ao54 t457.length co54) : Value).ownBlock ∧ some k_ ≠ ((.slice Ao59 t462.length co59) : Value).ownBlock ∧ some k_ ≠ ((.slice Ao66 t467.length co66) : Value).ownBlock ∧ k_ ≠ gb443 ∧ k_ ≠ gb461 ∧ k_ ≠ gb466 ∧ k_ ≠ gb471) (.slice Ao9 t437.length co9) t437) ∧ Aside0 (Kd.N k79 79 w' w.heap.size (fun k_ => some k_ ≠ ((.slice Ao11 t440.length co11) : Value).ownBlock ∧ some k_ ≠ ((.slice Ao51 t444.length co51) : Value).ownBlock ∧ some k_ ≠ ((.slice Ao9 t437.length co9) : Value).ownBlock ∧ some k_ ≠ ((.slice Ao59 t462.length co59) : Value).ownBlock ∧ some k_ ≠ ((.slice Ao66 t467.length co66) : Value).ownBlock ∧ k_ ≠ gb443 ∧ k_ ≠ gb461 ∧ k_ ≠ gb466 ∧ k_ ≠ gb471) (.slice Ao54 t457.length co54) t457) ∧ Aside0 (Kd.N k79 79 w' w.heap.size (fun k_ => some k_ ≠ ((.slice Ao11 t440.length co11) : Value).ownBlock ∧ some k_ ≠ ((.slice Ao51 t444.length co51) : Value).ownBlock ∧ some k_ ≠ ((.slice Ao9 t437.length co9) : Value).ownBlock ∧ some k_ ≠ ((.slice Ao54 t457.length co54) : Value).ownBlock ∧ some k_ ≠ ((.slice Ao66 t467.length co66) : Value).ownBlock ∧ k_ ≠ gb443 ∧ k_ ≠ gb461 ∧ k_ ≠ gb466 ∧ k_ ≠ gb471) (.slice Ao59 t462.length co59) t462) ∧ Aside0 (Kd.N k79 79 w' w.heap.size (fun k_ => some k_ ≠ ((.slice Ao11 t440.length co11) : Value).ownBlock ∧ some k_ ≠ ((.slice Ao51 t444.length co51) : Value).ownBlock ∧ some k_ ≠ ((.slice Ao9 t437.length co9) : Value).ownBlock ∧ some k_ ≠ ((.slice Ao54 t457.length co54) : Value).ownBlock ∧ some k_ ≠ ((.slice Ao59 t462.length co59) : Value).ownBlock ∧ k_ ≠ gb443 ∧ k_ ≠ gb461 ∧ k_ ≠ gb466 ∧ k_ ≠ gb471) (.slice Ao66 t467.length co66) t467) ∧ Aside0 (w'.heap[gb443]? = some (.cells #[(.slice Ao9 t437.length co9)] 26 (0, 0))) ∧ Aside0 (w'.heap[gb461]? = some (.cells #[(.slice Ao54 t457.length co54)] 26 (0, 0))) ∧ Aside0 (w'.heap[gb466]? = some (.cells #[(.slice Ao59 t462.length co59)] 26 (0, 0))) ∧ Aside0 (w'.heap[gb471]? = some (.cells #[(.slice Ao66 t467.length co66)] 26 (0, 0))) ∧ Aside0 (Below w.heap.size w w'))
       case atStart => exact ⟨(0), qz5, H', ⟨Nat.le_refl _⟩, ⟨by (with_reducible repeat (first | apply Kd.R_alloc | apply Kd.R_drewN | apply Kd.R_drew)); exact Kd.R_mono (Kd.R_far (p := ⟨gb471, 0, none⟩) (Kd.R_types HO_4.out BK471.out (by decide)) (fun _ hk => hk.2) (.slice Ao66 t467.length co66)) (fun _ hk => trivial)⟩, ⟨by (with_reducible repeat (first | apply Kd.R_alloc | apply Kd.R_drewN | apply Kd.R_drew)); exact Kd.R_mono (Kd.R_far (p := ⟨gb471, 0, none⟩) (Kd.R_types HO_5.out BK471.out (by decide)) (fun _ hk => hk.2) (.slice Ao66 t467.length co66)) (fun _ hk => trivial)⟩, ⟨by (with_reducible repeat (first | apply Kd.N_alloc | apply Kd.N_drewN | apply Kd.N_drew)); exact Kd.N_mono (Kd.N_far (p := ⟨gb471, 0, none⟩) (Kd.N_mono HO_444000.out (fun k_ hk => (⟨hk, hk.2⟩ : _ ∧ k_ ≠ gb471))) (fun _ hk => hk.2) (.slice Ao66 t467.length co66)) (fun _ hk => ⟨hk.1.1.1.1.1.1.1.1, ⟨hk.1.1.1.1.1.1.1.2.1, ⟨hk.1.1.1.1.1.1.2, ⟨hk.1.1.1.1.2, ⟨hk.1.1.2, ⟨hk.1.1.1.1.1.1.1.2.2, ⟨hk.1.1.1.1.1.2, ⟨hk.1.1.1.2, hk.1.2⟩⟩⟩⟩⟩⟩⟩⟩)⟩, ⟨by (with_reducible repeat (first | apply Kd.N_alloc | apply Kd.N_drewN | apply Kd.N_drew)); exact Kd.N_mono (Kd.N_far (p := ⟨gb471, 0, none⟩) (Kd.N_mono HO459.out (fun k_ hk => (⟨hk, hk.2⟩ : _ ∧ k_ ≠ gb471))) (fun _ hk => hk.2) (.slice Ao66 t467.length co66)) (fun _ hk => ⟨hk.1.1.1.1.1.1.1, ⟨hk.1.1.1.1.1.1.2.1, ⟨hk.1.1.1.1.1.1.2.2.1, ⟨hk.1.1.1.1.2, ⟨hk.1.1.2, ⟨hk.1.1.1.1.1.1.2.2.2, ⟨hk.1.1.1.1.1.2, ⟨hk.1.1.1.2, hk.1.2⟩⟩⟩⟩⟩⟩⟩⟩)⟩, ⟨by (with_reducible repeat (first | apply Kd.N_alloc | apply Kd.N_drewN | apply Kd.N_drew)); exact Kd.N_mono (Kd.N_far (p := ⟨gb471, 0, none⟩) (Kd.N_mono HO464.out (fun k_ hk => (⟨hk, hk.2⟩ : _ ∧ k_ ≠ gb471))) (fun _ hk => hk.2) (.slice Ao66 t467.length co66)) (fun _ hk => ⟨hk.1.1.1.1.1, ⟨hk.1.1.1.1.2.1, ⟨hk.1.1.1.1.2.2.1, ⟨hk.1.1.1.1.2.2.2.1, ⟨hk.1.1.2, ⟨hk.1.1.1.1.2.2.2.2.1, ⟨hk.1.1.1.1.2.2.2.2.2, ⟨hk.1.1.1.2, hk.1.2⟩⟩⟩⟩⟩⟩⟩⟩)⟩, ⟨by (with_reducible repeat (first | apply Kd.N_alloc | apply Kd.N_drewN | apply Kd.N_drew)); exact Kd.N_mono (Kd.N_far (p := ⟨gb471, 0, none⟩) (Kd.N_mono HO469.out (fun k_ hk => (⟨hk, hk.2⟩ : _ ∧ k_ ≠ gb471))) (fun _ hk => hk.2) (.slice Ao66 t467.length co66)) (fun _ hk => ⟨hk.1.1.1, ⟨hk.1.1.2.1, ⟨hk.1.1.2.2.1, ⟨hk.1.1.2.2.2.1, ⟨hk.1.1.2.2.2.2.1, ⟨hk.1.1.2.2.2.2.2.1, ⟨hk.1.1.2.2.2.2.2.2.1, ⟨hk.1.1.2.2.2.2.2.2.2, hk.1.2⟩⟩⟩⟩⟩⟩⟩⟩)⟩, ⟨by (with_reducible repeat (first | refine blk_drewN ?_ _ | refine blk_drew ?_ | refine blk_alloc ?_ _)); refine blk_far ?_ NB443_471.out _; exact bk_ BK443.out⟩, ⟨by (with_reducible repeat (first | refine blk_drewN ?_ _ | refine blk_drew ?_ | refine blk_alloc ?_ _)); refine blk_far ?_ NB461_471.out _; exact bk_ BK461.out⟩, ⟨by (with_reducible repeat (first | refine blk_drewN ?_ _ | refine blk_drew ?_ | refine blk_alloc ?_ _)); refine blk_far ?_ NB466_471.out _; exact bk_ BK466.out⟩, ⟨by (with_reducible repeat (first | refine blk_drewN ?_ _ | refine blk_drew ?_ | refine blk_alloc ?_ _)); refine blk_put (cs := #[.slice none 0 0]) ?_ 0 _ rfl; exact bk_ BK471.out⟩, ⟨qz1⟩⟩
       case round =>
        clear H'
        try clear c1
        try clear c2
        try clear p2
        try clear c3
        try clear c4
        try clear p4
        try clear q4
        try clear hx4
        try clear c5
        try clear c6
        try clear p6
        try clear c9
        try clear c14
        try clear c15
        try clear c21
        try clear c22
        try clear c24
        try clear c24b0
        try clear c25
        try clear c26
        try clear c26b0
        try clear c31
        try clear c31b0
        try clear c31b1
        try clear c31b2
        try clear c32
        try clear c33
        try clear c33b0
        try clear c34
        try clear c34b0
        try clear c35
        try clear c35b0
        try clear c36
        try clear c36b0
        try clear c37
        try clear c37b0
        try clear c38
        try clear c38b0
        try clear c38b1
        try clear c39
        try clear c40
        try clear c41
        try clear c43
        try clear c43b0
        try clear c44
        try clear c44b0
        try clear c45
        try clear c45b0
        try clear c45b1
        try clear p45
        try clear q45
        try clear hx45
        try clear c55
        try clear c60
        try clear c61
        try clear p64
        try clear c67
        try clear c68
        try clear c69
        try clear hcz10_0
        try clear hcz16_0
        try clear hcz19_0
        try clear hcz50_0
        try clear hcz56_0
        try clear hcz62_0
        try clear hcz63_0
        try clear hcz70_0
        try clear hfz10_0
        try clear hfz16_0
        try clear hfz19_0
        try clear hfz50_0
        try clear hfz56_0
        try clear hfz62_0
        try clear hfz63_0
        try clear hfz70_0
        try clear hx450_0
        try clear hx450_1
        try clear hx452_0
        try clear hx452_1
        try clear hx453_0
        try clear hx453_1
        try clear hx453_2
        try clear hx454_0
        try clear hx454_1
        try clear hx455_0
        try clear hx455_1
        try clear hx455_2
        try clear hx456_0
        try clear hx456_1
        try clear p2
        try clear p4
        try clear p450
        try clear p452
        try clear p453
        try clear p454
        try clear p455
        try clear p456
        try clear p6
        try clear q4
        try clear q450
        try clear q452
        try clear q453
        try clear q454
        try clear q455
        try clear q456
        obtain ⟨x18_4, rfl, HA, HK4, HO_4, HO_5, HO_444000, HO_462000, HO_467000, HO_472000, BK443, BK461, BK466, BK471, HB⟩ := hrel
        cases gk with
        | zero => exact absurd HA.out (by simp [laws_FnPicks.l3])
        | succ k4 =>
         have H := HA.out
         clear HA
         simp only [laws_FnPicks.l3] at H
         by_cases c71 : x18_4 < (t440.length : Int)
         {
         rw [if_pos c71] at H
         have c71b0 := decide_eq_true c71
         clear c71
         by_cases c72 : 0 ≤ x18_4
         {
         rw [if_pos c72] at H
         have c72b0 := decide_eq_true c72
         clear c72
         replace H := Option.bind_eq_some_iff.mp H
         obtain ⟨t478, A730, H⟩ := H
         replace H : ((impl_Count.f k4 t437 ((rd_T48 t440 x18_4).f0)).bind fun t480 => (if t478 = (wrap64 (t480 - ((rd_T48 t440 x18_4).f1))) then (laws_FnPicks.l3 k4 t440 t444 t460 t465 t470 (wrap64 (x18_4 + 1)) t437 t462 t467) else (some false))) = some r := H
         have A73 := aM A730
         clear A730
         replace H := Option.bind_eq_some_iff.mp H
         obtain ⟨t480, A740, H⟩ := H
         replace H : (if t478 = (wrap64 (t480 - ((rd_T48 t440 x18_4).f1))) then (laws_FnPicks.l3 k4 t440 t444 t460 t465 t470 (wrap64 (x18_4 + 1)) t437 t462 t467) else (some false)) = some r := H
         have A74 := aM A740
         clear A740
         by_cases c75 : t478 = (wrap64 (t480 - ((rd_T48 t440 x18_4).f1)))
         {
         rw [if_pos c75] at H
         have c75b0 := beq_iff_eq.mpr c75
         have c75b1 := bne_eq_false_iff_eq.mpr c75
         clear c75
         have H' := aM H
         clear H
         try go_wp2
         replace HO_4 := aM (Kd.R_drew HO_4.out)
         replace HO_5 := aM (Kd.R_drew HO_5.out)
         replace HO_444000 := aM (Kd.N_drew HO_444000.out)
         replace HO_462000 := aM (Kd.N_drew HO_462000.out)
         replace HO_467000 := aM (Kd.N_drew HO_467000.out)
         replace HO_472000 := aM (Kd.N_drew HO_472000.out)
         replace BK443 := aM (blk_drew BK443.out)
         replace BK461 := aM (blk_drew BK461.out)
         replace BK466 := aM (blk_drew BK466.out)
         replace BK471 := aM (blk_drew BK471.out)
         replace HB := aM (below_drew1 HB.out)
         have p477 : 0 ≤ (x18_4 : Int) := dt_
         have q477 : x18_4 < (t440.length : Int) := dt_
         obtain ⟨ad477, e477, hx477_0, hx477_1⟩ := at_T48 (Kd.R_reads' HO_4.out).2.2 x18_4 p477 q477
         cases e477
         replace p477 := eq_true p477
         replace q477 := eq_true q477
         have p479 : 0 ≤ (x18_4 : Int) := dt_
         have q479 : x18_4 < (t440.length : Int) := dt_
         obtain ⟨ad479, e479, hx479_0, hx479_1⟩ := at_T48 (Kd.R_reads' HO_4.out).2.2 x18_4 p479 q479
         obtain rfl : ad477 = ad479 := (by injection e479)
         replace p479 := eq_true p479
         replace q479 := eq_true q479
         have p481 : 0 ≤ (x18_4 : Int) := dt_
         have q481 : x18_4 < (t440.length : Int) := dt_
         obtain ⟨ad481, e481, hx481_0, hx481_1⟩ := at_T48 (Kd.R_reads' HO_4.out).2.2 x18_4 p481 q481
         obtain rfl : ad477 = ad481 := (by injection e481)
         replace p481 := eq_true p481
         replace q481 := eq_true q481
         refine start_ (n := 21) (S := fun w' => w'.cell? ⟨gb471, 0, none⟩ = some (.slice Ao66 t467.length co66) ∧ w'.cell? ⟨gb443, 0, none⟩ = some (.slice Ao9 t437.length co9) ∧ w'.cell? (ad477.add ((x18_4).toNat * 2)) = some (.int .i64 ((rd_T48 t440 x18_4).f0)) ∧ w'.cell? ⟨(ad477.add ((x18_4).toNat * 2)).block, (ad477.add ((x18_4).toNat * 2)).off + 1, none⟩ = some (.int .i64 ((rd_T48 t440 x18_4).f1)) ∧ w'.cell? (ad477.add ((x18_4).toNat * 2)) = some (.int .i64 ((rd_T48 t440 x18_4).f0)) ∧ w'.cell? ⟨(ad477.add ((x18_4).toNat * 2)).block, (ad477.add ((x18_4).toNat * 2)).off + 1, none⟩ = some (.int .i64 ((rd_T48 t440 x18_4).f1)) ∧ w'.cell? (ad477.add ((x18_4).toNat * 2)) = some (.int .i64 ((rd_T48 t440 x18_4).f0)) ∧ w'.cell? ⟨(ad477.add ((x18_4).toNat * 2)).block, (ad477.add ((x18_4).toNat * 2)).off + 1, none⟩ = some (.int .i64 ((rd_T48 t440 x18_4).f1))) (ds := []) #[false, false, false, false, false, false, false, false, false, false, false, false, false, false, false, false, false, false, false, false, false] (by kernel_rfl) rfl rfl ⟨(blk_cell BK471.out 0).trans rfl, (blk_cell BK443.out 0).trans rfl, hx477_0, hx477_1, hx479_0, hx479_1, hx481_0, hx481_1⟩ (fun hHeld => ?_); refine with_tabW laws_FnPicks.tab33 laws_FnPicks.bits33 (fun HT_ HW_ => ?_)
         generalize wr.drew = w76 at HO_4 HO_5 HO_444000 HO_462000 HO_467000 HO_472000 BK443 BK461 BK466 BK471 HB hx477_0 hx477_1 hx479_0 hx479_1 hx481_0 hx481_1 hHeld ⊢
         refine pI_ 1 139 (bqz 21 2) ?_
         refine jI_ 2 140 ?_
         refine jI_ 3 141 ?_
         refine jI_ 4 142 ?_
         refine jI_ 8 146 ?_
         refine jI_ 9 147 ?_
         refine jI_ 10 148 ?_
         refine jI_ 11 149 ?_
         refine jI_ 14 152 ?_
         refine jI_ 15 153 ?_
         refine jI_ 16 154 ?_
         refine jI_ 17 155 ?_
         refine sI8_ 0 138 ?_
         refine sI8_ 5 143 ?_
         refine sI8_ 7 145 ?_
         refine sI8_ 12 150 ?_
         refine sI8_ 18 156 ?_
         refine one_ (i := 6) (N := some 144) (bqz 21 516095) rfl rfl qzc (by decide) (fun K hK => ?_)
         refine goes_ Try.func23 (by kernel_rfl) rfl #[.agg #[.slice Ao66 t467.length co66], .int .i64 ((rd_T48 t440 x18_4).f0)] (by rfl) rfl rfl qz4 ?_
         with_reducible refine (impl_Count.calls k4 _ _ t467 ((rd_T48 t440 x18_4).f0) t478 _ ?side1 ?side2 A73.out).mono ?_
         (case side1 => repeat (first | exact (Kd.N_reads' HO_472000.out).2.2 | (with_reducible refine Kd.C_alloc ?_ _) | (with_reducible refine Kd.C_drewN ?_ _) | (with_reducible refine Kd.C_drew ?_)))
         (case side2 => exact (Kd.N_reads' HO_472000.out).2.1)
         rintro e w77 ⟨rfl, hb⟩
         have HS2_ := (hb.cell (World.block_lt_of_cell? _ _ (hHeld.2.2.1))).trans (hHeld.2.2.1)
         have HS3_ := (hb.cell (World.block_lt_of_cell? _ _ (hHeld.2.2.2.1))).trans (hHeld.2.2.2.1)
         have HS4_ := (hb.cell (World.block_lt_of_cell? _ _ (hHeld.2.2.2.2.1))).trans (hHeld.2.2.2.2.1)
         have HS5_ := (hb.cell (World.block_lt_of_cell? _ _ (hHeld.2.2.2.2.2.1))).trans (hHeld.2.2.2.2.2.1)
         have HS6_ := (hb.cell (World.block_lt_of_cell? _ _ (hHeld.2.2.2.2.2.2.1))).trans (hHeld.2.2.2.2.2.2.1)
         have HS7_ := (hb.cell (World.block_lt_of_cell? _ _ (hHeld.2.2.2.2.2.2.2))).trans (hHeld.2.2.2.2.2.2.2)
         refine ⟨_, rfl, ?_⟩
         replace HO_4 := aM (Kd.R_below (rr_ HO_4.out) hb)
         replace HO_5 := aM (Kd.R_below (rr_ HO_5.out) hb)
         replace HO_444000 := aM (Kd.N_below qz13 hb)
         replace HO_462000 := aM (Kd.N_below qz19 hb)
         replace HO_467000 := aM (Kd.N_below qz20 hb)
         replace HO_472000 := aM (Kd.N_below qz21 hb)
         replace BK443 := bB_ BK443 hb
         replace BK461 := bB_ BK461 hb
         replace BK466 := bB_ BK466 hb
         replace BK471 := bB_ BK471 hb
         replace HB := bS_ hb
         (try clear hb)
         (try clear hb2)
         (try clear hk)
         (try clear hi)
         refine hK.out _ _ ⟨(blk_cell BK471.out 0).trans rfl, (blk_cell BK443.out 0).trans rfl, HS2_, HS3_, HS4_, HS5_, HS6_, HS7_⟩ (fun hHeld => ?_)
         clear hK K
         refine nm_ 144 ?_
         refine one_ (i := 13) (N := some 151) (bqz 21 524287) rfl rfl qzc (by decide) (fun K hK => ?_)
         refine goes_ Try.func23 (by kernel_rfl) rfl #[.agg #[.slice Ao9 t437.length co9], .int .i64 ((rd_T48 t440 x18_4).f0)] (by rfl) rfl rfl qz4 ?_
         with_reducible refine (impl_Count.calls k4 _ _ t437 ((rd_T48 t440 x18_4).f0) t480 _ ?side1 ?side2 A74.out).mono ?_
         (case side1 => exact qz18)
         (case side2 => exact (Kd.N_reads' HO_444000.out).2.1)
         rintro e w78 ⟨rfl, hb⟩
         have HS2_ := (hb.cell (World.block_lt_of_cell? _ _ (hHeld.2.2.1))).trans (hHeld.2.2.1)
         have HS3_ := (hb.cell (World.block_lt_of_cell? _ _ (hHeld.2.2.2.1))).trans (hHeld.2.2.2.1)
         have HS4_ := (hb.cell (World.block_lt_of_cell? _ _ (hHeld.2.2.2.2.1))).trans (hHeld.2.2.2.2.1)
         have HS5_ := (hb.cell (World.block_lt_of_cell? _ _ (hHeld.2.2.2.2.2.1))).trans (hHeld.2.2.2.2.2.1)
         have HS6_ := (hb.cell (World.block_lt_of_cell? _ _ (hHeld.2.2.2.2.2.2.1))).trans (hHeld.2.2.2.2.2.2.1)
         have HS7_ := (hb.cell (World.block_lt_of_cell? _ _ (hHeld.2.2.2.2.2.2.2))).trans (hHeld.2.2.2.2.2.2.2)
         refine ⟨_, rfl, ?_⟩
         replace HO_4 := aM (Kd.R_below (rr_ HO_4.out) hb)
         replace HO_5 := aM (Kd.R_below (rr_ HO_5.out) hb)
         replace HO_444000 := aM (Kd.N_below qz13 hb)
         replace HO_462000 := aM (Kd.N_below qz19 hb)
         replace HO_467000 := aM (Kd.N_below qz20 hb)
         replace HO_472000 := aM (Kd.N_below qz21 hb)
         replace BK443 := bB_ BK443 hb
         replace BK461 := bB_ BK461 hb
         replace BK466 := bB_ BK466 hb
         replace BK471 := bB_ BK471 hb
         replace HB := bS_ hb
         (try clear hb)
         (try clear hb2)
         (try clear hk)
         (try clear hi)
         refine hK.out _ _ ⟨(blk_cell BK471.out 0).trans rfl, (blk_cell BK443.out 0).trans rfl, HS2_, HS3_, HS4_, HS5_, HS6_, HS7_⟩ (fun hHeld => ?_)
         clear hK K
         refine nm_ 151 ?_
         refine pI_ 19 157 (bqz 21 1048575) ?_
         refine jI_ 20 158 ?_
         refine done_ (done_of HT_.out (by kernel_rfl)) ?_
         try go_wp2
         go_roundg k4
         case measure => have := HJ5.out; have := HK2.out; have := HK3.out; have := HK4.out; omega
         case rel => exact ⟨(wrap64 (x18_4 + 1)), qz5, H', ⟨by have := HJ5.out; have := HK2.out; have := HK3.out; have := HK4.out; omega⟩, ⟨rm_ HO_4.out⟩, ⟨rm_ HO_5.out⟩, ⟨by (with_reducible repeat (first | apply Kd.N_alloc | apply Kd.N_drewN | apply Kd.N_drew)); (first | exact HO_444000.out | exact Kd.R_mono HO_444000.out (fun _ h_ => h_.1) | exact Kd.R_mono HO_444000.out (fun _ h_ => h_.2))⟩, ⟨by (with_reducible repeat (first | apply Kd.N_alloc | apply Kd.N_drewN | apply Kd.N_drew)); (first | exact HO_462000.out | exact Kd.R_mono HO_462000.out (fun _ h_ => h_.1) | exact Kd.R_mono HO_462000.out (fun _ h_ => h_.2))⟩, ⟨by (with_reducible repeat (first | apply Kd.N_alloc | apply Kd.N_drewN | apply Kd.N_drew)); (first | exact HO_467000.out | exact Kd.R_mono HO_467000.out (fun _ h_ => h_.1) | exact Kd.R_mono HO_467000.out (fun _ h_ => h_.2))⟩, ⟨by (with_reducible repeat (first | apply Kd.N_alloc | apply Kd.N_drewN | apply Kd.N_drew)); (first | exact HO_472000.out | exact Kd.R_mono HO_472000.out (fun _ h_ => h_.1) | exact Kd.R_mono HO_472000.out (fun _ h_ => h_.2))⟩, ⟨bk_ BK443.out⟩, ⟨bk_ BK461.out⟩, ⟨bk_ BK466.out⟩, ⟨bk_ BK471.out⟩, ⟨qz1⟩⟩
         }
         {
         rw [if_neg c75] at H
         have c75b0 := beq_eq_false_iff_ne.mpr c75
         have c75b1 := bne_iff_ne.mpr c75
         obtain rfl := Option.some.inj H
         exact absurd HTR_.out (by decide)
         }
         }
         {
         exact an_ c72 H
         }
         }
         {
         rw [if_neg c71] at H
         have c71b0 := decide_eq_false c71
         clear c71
         by_cases c79 : t460 = true
         {
         subst c79
         rw [if_pos rfl] at H
         by_cases c80 : t465 = true
         {
         subst c80
         rw [if_pos rfl] at H
         by_cases c81 : t470 = true
         {
         subst c81
         rw [if_pos rfl] at H
         replace H := Option.bind_eq_some_iff.mp H
         obtain ⟨t472, A820, H⟩ := H
         replace H : (if t472 = true then ((impl_PodsOf.f k4 t444).bind fun t473 => (if (t473.length : Int) ≤ (t437.length : Int) then ((impl_ItemsOk.f k4 t440).bind fun t476 => (some t476)) else (some false))) else (some false)) = some r := H
         have A82 := aM A820
         clear A820
         by_cases c83 : t472 = true
         {
         subst c83
         rw [if_pos rfl] at H
         replace H := Option.bind_eq_some_iff.mp H
         obtain ⟨t473, A840, H⟩ := H
         replace H : (if (t473.length : Int) ≤ (t437.length : Int) then ((impl_ItemsOk.f k4 t440).bind fun t476 => (some t476)) else (some false)) = some r := H
         have A84 := aM A840
         clear A840
         by_cases c85 : (t473.length : Int) ≤ (t437.length : Int)
         {
         rw [if_pos c85] at H
         have c85b0 := decide_eq_true c85
         have c85b1 : decide (t473.length ≤ t437.length) = true := decide_eq_true (Int.ofNat_le.mp c85)
         clear c85
         replace H := Option.bind_eq_some_iff.mp H
         obtain ⟨t476, A860, H⟩ := H
         replace H : (some t476) = some r := H
         have A86 := aM A860
         clear A860
         obtain rfl := Option.some.inj H
         simp only [Option.some.injEq, Prod.mk.injEq] at H
         obtain ⟨rfl⟩ := H
         try go_wp2
         replace HO_4 := aM (Kd.R_drew HO_4.out)
         replace HO_5 := aM (Kd.R_drew HO_5.out)
         replace HO_444000 := aM (Kd.N_drew HO_444000.out)
         replace HO_462000 := aM (Kd.N_drew HO_462000.out)
         replace HO_467000 := aM (Kd.N_drew HO_467000.out)
         replace HO_472000 := aM (Kd.N_drew HO_472000.out)
         replace BK443 := aM (blk_drew BK443.out)
         replace BK461 := aM (blk_drew BK461.out)
         replace BK466 := aM (blk_drew BK466.out)
         replace BK471 := aM (blk_drew BK471.out)
         replace HB := aM (below_drew1 HB.out)
         refine start_ (n := 26) (S := fun w' => w'.cell? ⟨gb466, 0, none⟩ = some (.slice Ao59 t462.length co59) ∧ w'.cell? ⟨gb443, 0, none⟩ = some (.slice Ao9 t437.length co9)) (ds := []) #[false, false, false, false, false, false, false, false, false, false, false, false, false, false, false, false, false, false, false, false, false, false, false, false, false, false] (by kernel_rfl) rfl rfl ⟨(blk_cell BK466.out 0).trans rfl, (blk_cell BK443.out 0).trans rfl⟩ (fun hHeld => ?_); refine with_tabW laws_FnPicks.tab35 laws_FnPicks.bits35 (fun HT_ HW_ => ?_)
         generalize wr.drew = w87 at HO_4 HO_5 HO_444000 HO_462000 HO_467000 HO_472000 BK443 BK461 BK466 BK471 HB hHeld ⊢
         refine pI_ 0 159 (bqz 26 1) ?_
         refine jI_ 1 160 ?_
         refine jI_ 2 161 ?_
         refine jI_ 3 162 ?_
         refine jI_ 4 163 ?_
         refine jI_ 5 164 ?_
         refine jI_ 6 165 ?_
         refine jI_ 7 166 ?_
         refine sI2_ 8 167 ?_
         refine sI2_ 9 168 ?_
         refine one_ (i := 10) (N := some 169) (bqz 26 2047) rfl rfl qzc (by decide) (fun K hK => ?_)
         refine goes_ Try.func19 (by kernel_rfl) rfl #[.agg #[.slice Ao59 t462.length co59], .agg #[.slice Ao9 t437.length co9]] (by rfl) rfl rfl qz4 ?_
         with_reducible refine (laws_sameStock.calls k4 _ _ t462 _ _ t437 true _ ?side1 ?side2 ?side3 ?side4 A82.out (by first | rfl | exact HTR_.out)).mono ?_
         (case side1 => repeat (first | exact (Kd.N_reads' HO_467000.out).2.2 | (with_reducible refine Kd.C_alloc ?_ _) | (with_reducible refine Kd.C_drewN ?_ _) | (with_reducible refine Kd.C_drew ?_)))
         (case side2 => exact (Kd.N_reads' HO_467000.out).2.1)
         (case side3 => exact qz18)
         (case side4 => exact (Kd.N_reads' HO_444000.out).2.1)
         rintro e w88 ⟨rfl, hb⟩
         refine ⟨_, rfl, ?_⟩
         replace HO_4 := aM (Kd.R_below (rr_ HO_4.out) hb)
         replace HO_5 := aM (Kd.R_below (rr_ HO_5.out) hb)
         replace HO_444000 := aM (Kd.N_below qz13 hb)
         replace HO_462000 := aM (Kd.N_below qz19 hb)
         replace HO_467000 := aM (Kd.N_below qz20 hb)
         replace HO_472000 := aM (Kd.N_below qz21 hb)
         replace BK443 := bB_ BK443 hb
         replace BK461 := bB_ BK461 hb
         replace BK466 := bB_ BK466 hb
         replace BK471 := bB_ BK471 hb
         replace HB := bS_ hb
         (try clear hb)
         (try clear hb2)
         (try clear hk)
         (try clear hi)
         refine hK.out _ _ ⟨(blk_cell BK466.out 0).trans rfl, (blk_cell BK443.out 0).trans rfl⟩ (fun hHeld => ?_)
         clear hK K
         refine nm_ 169 ?_
         refine pI_ 11 170 (bqz 26 4095) ?_
         refine jI_ 12 171 ?_
         refine jI_ 13 172 ?_
         refine jI_ 16 175 ?_
         refine sI2_ 17 176 ?_
         refine jI_ 18 177 ?_
         refine one_ (i := 14) (N := some 173) (bqz 26 491519) rfl rfl qzc (by decide) (fun K hK => ?_)
         refine goes_ Try.func42 (by kernel_rfl) rfl #[.slice Ao51 t444.length co51] (by rfl) rfl rfl qz4 ?_
         with_reducible refine (impl_PodsOf.calls k4 _ _ t444 t473 _ ?side1 ?side2 A84.out).mono ?_
         (case side1 => repeat (first | exact (Kd.R_reads' HO_5.out).2.2 | (with_reducible refine Kd.C_alloc ?_ _) | (with_reducible refine Kd.C_drewN ?_ _) | (with_reducible refine Kd.C_drew ?_)))
         (case side2 => exact (Kd.R_reads' HO_5.out).2.1)
         rintro e w89 ⟨v474, rfl, ho0, hb⟩
         refine ⟨_, rfl, ?_⟩
         replace HO_4 := aM (Kd.R_below (rr_ HO_4.out) hb)
         replace HO_5 := aM (Kd.R_below (rr_ HO_5.out) hb)
         replace HO_444000 := aM (Kd.N_elder' qz13 (Kd.R_base ho0) hb)
         replace HO_462000 := aM (Kd.N_elder' qz19 (Kd.R_base ho0) hb)
         replace HO_467000 := aM (Kd.N_elder' qz20 (Kd.R_base ho0) hb)
         replace HO_472000 := aM (Kd.N_elder' qz21 (Kd.R_base ho0) hb)
         have HO475 := aM (Kd.R_lower ho0 (below_size qz1))
         replace BK443 := bB_ BK443 hb
         replace BK461 := bB_ BK461 hb
         replace BK466 := bB_ BK466 hb
         replace BK471 := bB_ BK471 hb
         replace HB := bS_ hb
         (try clear hb)
         (try clear hb2)
         (try clear hk)
         (try clear hi)
         (try clear ho0)
         obtain ⟨Ao90, co90, eo90⟩ := Kd.R_slice HO475.out
         (first | subst eo90 | (injection eo90 with f1_ f2_ f3_; have f4_ := f1_.symm; have f5_ := f3_.symm; clear f1_ f2_ f3_; subst f4_; subst f5_))
         refine hK.out _ _ ⟨(blk_cell BK466.out 0).trans rfl, (blk_cell BK443.out 0).trans rfl⟩ (fun hHeld => ?_)
         clear hK K
         refine nm_ 173 ?_
         refine pI_ 15 174 (bqz 26 524287) ?_
         refine jI_ 19 178 ?_
         refine jI_ 20 179 ?_
         refine jI_ 21 180 ?_
         refine jI_ 22 181 ?_
         refine one_ (i := 23) (N := some 182) (bqz 26 16777215) rfl rfl qzc (by decide) (fun K hK => ?_)
         refine goes_ Try.func43 (by kernel_rfl) rfl #[.slice Ao11 t440.length co11] (by rfl) rfl rfl qz4 ?_
         with_reducible refine (impl_ItemsOk.calls k4 _ _ t440 t476 _ ?side1 ?side2 A86.out).mono ?_
         (case side1 => repeat (first | exact (Kd.R_reads' HO_4.out).2.2 | (with_reducible refine Kd.C_alloc ?_ _) | (with_reducible refine Kd.C_drewN ?_ _) | (with_reducible refine Kd.C_drew ?_)))
         (case side2 => exact (Kd.R_reads' HO_4.out).2.1)
         rintro e w91 ⟨rfl, hb⟩
         refine ⟨_, rfl, ?_⟩
         replace HO_4 := aM (Kd.R_below (rr_ HO_4.out) hb)
         replace HO_5 := aM (Kd.R_below (rr_ HO_5.out) hb)
         replace HO_444000 := aM (Kd.N_below qz13 hb)
         replace HO_462000 := aM (Kd.N_below qz19 hb)
         replace HO_467000 := aM (Kd.N_below qz20 hb)
         replace HO_472000 := aM (Kd.N_below qz21 hb)
         replace HO475 := aM (Kd.R_below (rr_ HO475.out) hb)
         replace BK443 := bB_ BK443 hb
         replace BK461 := bB_ BK461 hb
         replace BK466 := bB_ BK466 hb
         replace BK471 := bB_ BK471 hb
         replace HB := bS_ hb
         (try clear hb)
         (try clear hb2)
         (try clear hk)
         (try clear hi)
         refine hK.out _ _ ⟨(blk_cell BK466.out 0).trans rfl, (blk_cell BK443.out 0).trans rfl⟩ (fun hHeld => ?_)
         clear hK K
         refine nm_ 182 ?_
         refine pI_ 24 183 (bqz 26 33554431) ?_
         refine jI_ 25 2 ?_
         refine done_ (done_of HT_.out (by kernel_rfl)) ?_
         try go_wp2
         go_ret
         exact ⟨qzw, qz1⟩
         }
         {
         rw [if_neg c85] at H
         have c85b0 := decide_eq_false c85
         have c85b1 : decide (t473.length ≤ t437.length) = false := decide_eq_false (fun h => c85 (Int.ofNat_le.mpr h))
         clear c85
         obtain rfl := Option.some.inj H
         exact absurd HTR_.out (by decide)
         }
         }
         {
         replace c83 := Bool.eq_false_iff.mpr c83
         subst c83
         rw [if_neg (show ¬ (false = true) by decide)] at H
         obtain rfl := Option.some.inj H
         exact absurd HTR_.out (by decide)
         }
         }
         {
         replace c81 := Bool.eq_false_iff.mpr c81
         subst c81
         rw [if_neg (show ¬ (false = true) by decide)] at H
         obtain rfl := Option.some.inj H
         exact absurd HTR_.out (by decide)
         }
         }
         {
         replace c80 := Bool.eq_false_iff.mpr c80
         subst c80
         rw [if_neg (show ¬ (false = true) by decide)] at H
         obtain rfl := Option.some.inj H
         exact absurd HTR_.out (by decide)
         }
         }
         {
         replace c79 := Bool.eq_false_iff.mpr c79
         subst c79
         rw [if_neg (show ¬ (false = true) by decide)] at H
         obtain rfl := Option.some.inj H
         exact absurd HTR_.out (by decide)
         }
         }
       }
     }
     {
     replace c32 := Bool.eq_false_iff.mpr c32
     subst c32
     rw [if_neg (show ¬ (false = true) by decide)] at H
     obtain rfl := Option.some.inj H
     simp only [Option.some.injEq, Prod.mk.injEq] at H
     obtain ⟨rfl⟩ := H
     obtain ⟨Ao92, co92, eo92⟩ := Kd.R_slice HO_5.out
     subst eo92
     go_wp2
     go_ret
     exact ⟨qzw, qz1⟩

     }
     }
     }
   }
 }
/-- THE ONE PURE STATEMENT of laws_FnPicks: yours. -/
def laws_FnPicks.Pure : Prop := ∀ (l0 : List Int), l0.length ≤ maxLen → l0.length * 1 ≤ 140737488351232 → (∀ x ∈ l0, (Lit.int .u8 x).wf = true) → ∃ k, laws_FnPicks.f k l0 = some true
theorem laws_FnPicks.walk (P : laws_FnPicks.Pure) (a0 : Option Addr) (len0 cap0 : Nat) (z0 : List Int) (w : World) (w0 : (a0 = none ∧ len0 = 0 ∧ cap0 = 0 ∧ z0 = []) ∨ ∃ x, a0 = some x ∧ len0 ≤ cap0 ∧ cap0 ≤ maxLen ∧ z0.length = cap0 ∧ (∀ i, i < z0.length → w.cell? (x.add i) = some (.int .u8 (z0.getD i 0))) ∧ ∀ n ∈ z0, (Lit.int .u8 n).wf = true) (y0 : len0 * 1 ≤ 140737488351232) :
  Calls Try.prog 9 #[.slice a0 len0 cap0] w fun e w' => e = .returned (.bool true) ∧ Below w.heap.size w w' := by
 obtain ⟨l0, rfl, hr0, hm0, hw0, hc0⟩ := ReadsInt.ofRowC w0
 obtain ⟨k, h⟩ := P l0 hm0 y0 hw0
 refine (laws_FnPicks.calls k _ _ l0 true w (Kd.C_of_reads (d := (0 : Int)) (h1 := fun _ => rfl) hr0) hc0 rfl h).mono ?_
 rintro e w' ⟨rfl, hd⟩
 exact ⟨rfl, hd⟩

end Go.Proofs.Yteajnkondkfmgaa.PFnPicks
