-- Made by a program of this session out of the translation. Lean checks it.
import Derived.Test.YteajnkondkfmgaaPFnTakenx0
import Derived.Test.YteajnkondkfmgaaPFnTakenx2
import Derived.Test.YteajnkondkfmgaaPFnTakenx4
import Derived.Test.YteajnkondkfmgaaPFnTakenx5
import Derived.Test.YteajnkondkfmgaaPFnTakenx6
import Derived.Test.YteajnkondkfmgaaPFnTakenx7
import Derived.Test.YteajnkondkfmgaaPFnTakenx11
import Derived.Test.YteajnkondkfmgaaPFnTakenx12
import Derived.Test.YteajnkondkfmgaaPFnTakenx16
import Derived.Test.YteajnkondkfmgaaPFnTakenx17
namespace Go.Proofs.Yteajnkondkfmgaa.PFnTaken
open Go.RowKit Go.Proofs.YteajnkondkfmgaaW.PrintWords Go.Proofs.YteajnkondkfmgaaW.PrintLast Go.Proofs.YteajnkondkfmgaaW.PrintMore
attribute [local go_sem] max2_int min2_int max_two min_two max_three min_three max_four min_four   -- for this text's walks alone
set_option linter.unusedVariables false
set_option linter.unusedSimpArgs false

/-! ### laws_FnTaken: function 4 -/
def laws_FnTaken.f (k : Nat) (l0 : List Int) : Option (Bool) := (laws_big.f l0).bind fun t391 => (if t391 = true then (some true) else ((spec_DrawPutIn.f k l0).bind fun bt392 => ((impl_PutIn.f k bt392.1 bt392.2.1 bt392.2.2.1 bt392.2.2.2).bind fun bt399 => ((spec_PutIn.f k bt392.1 bt392.2.1 bt392.2.2.1 bt392.2.2.2).bind fun bt404 => (if bt399.2 = bt404.2 then (if bt399.2 = 0 then ((impl_TakeOut.f k bt392.1 bt392.2.1 bt392.2.2.1 1000).bind fun bt410 => ((spec_TakeOut.f k bt392.1 bt392.2.1 bt392.2.2.1 1000).bind fun bt415 => ((impl_Hold.f k bt399.1 bt392.2.1 bt392.2.2.1 bt392.2.2.2).bind fun bt420 => ((impl_TakeOut.f k bt420.1 bt392.2.1 bt392.2.2.1 bt392.2.2.2).bind fun bt425 => (if bt410.2 = bt415.2 then ((impl_Free.f k bt399.1 bt392.2.2.1).bind fun t430 => ((impl_Free.f k bt392.1 bt392.2.2.1).bind fun t431 => (if t430 = (wrap64 (t431 + bt392.2.2.2)) then ((impl_Count.f k bt399.1 bt392.2.2.1).bind fun t432 => ((impl_Count.f k bt392.1 bt392.2.2.1).bind fun t433 => (if t432 = (wrap64 (t433 + bt392.2.2.2)) then (if bt420.2 = 0 then (if bt425.2 = 0 then ((laws_sameStock.f k bt425.1 bt392.1).bind fun t434 => (if t434 = true then ((impl_StockOk.f k bt399.1).bind fun t435 => (some t435)) else (some false))) else (some false)) else (some false)) else (some false)))) else (some false)))) else (some false)))))) else ((laws_sameStock.f k bt399.1 bt392.1).bind fun t409 => (some t409))) else (some false))))))
theorem laws_FnTaken.mono : ∀ a0 k, LeO (laws_FnTaken.f k a0) (laws_FnTaken.f (k + 1) a0) := by
 intro a0 k
 unfold laws_FnTaken.f
 have j0 := @impl_Count.mono
 have j1 := @impl_Free.mono
 have j2 := @impl_Hold.mono
 have j3 := @impl_PutIn.mono
 have j4 := @impl_StockOk.mono
 have j5 := @impl_TakeOut.mono
 have j6 := @laws_sameStock.mono
 have j7 := @spec_DrawPutIn.mono
 have j8 := @spec_PutIn.mono
 have j9 := @spec_TakeOut.mono
 exact qL
def laws_FnTaken.T14 : Bool × List (List Nat × List Nat) := (true, [([], []), ([], []), ([0, 1], [0, 1]), ([2], [2]), ([3], [3]), ([3], [3]), ([4, 5, 3, 3], [3, 4, 5]), ([3], [3]), ([3], [3]), ([7, 8, 6, 3], [3, 7, 8]), ([3], [3]), ([9, 10, 3], [3, 9, 10]), ([6, 11, 3], [3, 6, 11]), ([3, 12], [3, 12]), ([13, 9], [13]), ([14], [14]), ([14], [14]), ([15, 16, 14, 14], [14, 15, 16]), ([14], [14]), ([14], [14]), ([18, 19, 17, 14], [14, 18, 19]), ([14], [14]), ([20, 21, 14], [14, 20, 21]), ([17, 22, 14], [14, 17, 22]), ([14, 23], [14, 23]), ([24, 20], [24]), ([25], [25]), ([26, 25], [25, 26]), ([25, 27], [25, 27]), ([28, 25], [28]), ([29], [29]), ([30, 29], [29, 30]), ([29, 31], [29, 31]), ([32, 29], [32]), ([33], [33]), ([33], [33]), ([34, 35, 33, 33], [33, 34, 35]), ([33, 36], [33, 36]), ([37, 36], [37]), ([38], [38]), ([39, 38, 38], [38, 39]), ([38, 40], [38, 40]), ([41, 40, 0, 1, 2, 3, 4, 5, 6, 7, 8, 9, 10, 11, 12, 13, 14, 15, 16, 17, 18, 19, 20, 21, 22, 23, 24, 25, 26, 27, 28, 29, 30, 31, 32, 33, 34, 35, 36, 37, 38, 39, 40, 41], [41])])
def laws_FnTaken.B14 : List Nat := [0, 0, 3, 7, 15, 15, 63, 15, 15, 511, 15, 2047, 4095, 8191, 16383, 32767, 32767, 131071, 32767, 32767, 1048575, 32767, 4194303, 8388607, 16777215, 33554431, 67108863, 134217727, 268435455, 536870911, 1073741823, 2147483647, 4294967295, 8589934591, 17179869183, 17179869183, 68719476735, 137438953471, 274877906943, 549755813887, 1099511627775, 2199023255551, 4398046511103]
theorem laws_FnTaken.tab14 : rtab .any (opsOf Try.f4 14) = laws_FnTaken.T14 := by kernel_rfl
theorem laws_FnTaken.bits14 : waitsOk laws_FnTaken.T14.2 laws_FnTaken.B14 = true := by kernel_rfl
set_option maxHeartbeats 8000000 in
set_option maxRecDepth 100000 in
theorem laws_FnTaken.calls (k : Nat) (A0 : Option Addr) (c0 : Nat) (l0 : List Int) (r : Bool) (w : World) (hr0 : Kd.C (Kd.int .u8) w A0 l0.length l0) (hc0 : l0.length ≤ c0) (hT : r = true) (h : laws_FnTaken.f k l0 = some r) :
  Calls Try.prog 4 #[.slice A0 l0.length c0] w fun e w' => e = .returned (.bool r) ∧ Below w.heap.size w w' := by
 have HTR_ := aM hT
 clear hT
 have hu26 := Try.underlying26
 have HR0 := aM hr0
 have HC0 := aM hc0
 clear hr0 hc0
 have HB := aM (Below.refl w.heap.size w)
 have H : ((laws_big.f l0).bind fun t391 => (if t391 = true then (some true) else ((spec_DrawPutIn.f k l0).bind fun bt392 => ((impl_PutIn.f k bt392.1 bt392.2.1 bt392.2.2.1 bt392.2.2.2).bind fun bt399 => ((spec_PutIn.f k bt392.1 bt392.2.1 bt392.2.2.1 bt392.2.2.2).bind fun bt404 => (if bt399.2 = bt404.2 then (if bt399.2 = 0 then ((impl_TakeOut.f k bt392.1 bt392.2.1 bt392.2.2.1 1000).bind fun bt410 => ((spec_TakeOut.f k bt392.1 bt392.2.1 bt392.2.2.1 1000).bind fun bt415 => ((impl_Hold.f k bt399.1 bt392.2.1 bt392.2.2.1 bt392.2.2.2).bind fun bt420 => ((impl_TakeOut.f k bt420.1 bt392.2.1 bt392.2.2.1 bt392.2.2.2).bind fun bt425 => (if bt410.2 = bt415.2 then ((impl_Free.f k bt399.1 bt392.2.2.1).bind fun t430 => ((impl_Free.f k bt392.1 bt392.2.2.1).bind fun t431 => (if t430 = (wrap64 (t431 + bt392.2.2.2)) then ((impl_Count.f k bt399.1 bt392.2.2.1).bind fun t432 => ((impl_Count.f k bt392.1 bt392.2.2.1).bind fun t433 => (if t432 = (wrap64 (t433 + bt392.2.2.2)) then (if bt420.2 = 0 then (if bt425.2 = 0 then ((laws_sameStock.f k bt425.1 bt392.1).bind fun t434 => (if t434 = true then ((impl_StockOk.f k bt399.1).bind fun t435 => (some t435)) else (some false))) else (some false)) else (some false)) else (some false)))) else (some false)))) else (some false)))))) else ((laws_sameStock.f k bt399.1 bt392.1).bind fun t409 => (some t409))) else (some false))))))) = some r := h
 clear h
 replace H := Option.bind_eq_some_iff.mp H
 obtain ⟨t391, A20, H⟩ := H
 replace H : (if t391 = true then (some true) else ((spec_DrawPutIn.f k l0).bind fun bt392 => ((impl_PutIn.f k bt392.1 bt392.2.1 bt392.2.2.1 bt392.2.2.2).bind fun bt399 => ((spec_PutIn.f k bt392.1 bt392.2.1 bt392.2.2.1 bt392.2.2.2).bind fun bt404 => (if bt399.2 = bt404.2 then (if bt399.2 = 0 then ((impl_TakeOut.f k bt392.1 bt392.2.1 bt392.2.2.1 1000).bind fun bt410 => ((spec_TakeOut.f k bt392.1 bt392.2.1 bt392.2.2.1 1000).bind fun bt415 => ((impl_Hold.f k bt399.1 bt392.2.1 bt392.2.2.1 bt392.2.2.2).bind fun bt420 => ((impl_TakeOut.f k bt420.1 bt392.2.1 bt392.2.2.1 bt392.2.2.2).bind fun bt425 => (if bt410.2 = bt415.2 then ((impl_Free.f k bt399.1 bt392.2.2.1).bind fun t430 => ((impl_Free.f k bt392.1 bt392.2.2.1).bind fun t431 => (if t430 = (wrap64 (t431 + bt392.2.2.2)) then ((impl_Count.f k bt399.1 bt392.2.2.1).bind fun t432 => ((impl_Count.f k bt392.1 bt392.2.2.1).bind fun t433 => (if t432 = (wrap64 (t433 + bt392.2.2.2)) then (if bt420.2 = 0 then (if bt425.2 = 0 then ((laws_sameStock.f k bt425.1 bt392.1).bind fun t434 => (if t434 = true then ((impl_StockOk.f k bt399.1).bind fun t435 => (some t435)) else (some false))) else (some false)) else (some false)) else (some false)))) else (some false)))) else (some false)))))) else ((laws_sameStock.f k bt399.1 bt392.1).bind fun t409 => (some t409))) else (some false)))))) = some r := H
 have A2 := aM A20
 clear A20
 by_cases c3 : t391 = true
 {
 subst c3
 rw [if_pos rfl] at H
 obtain rfl := Option.some.inj H
 simp only [Option.some.injEq, Prod.mk.injEq] at H
 obtain ⟨rfl⟩ := H
 go_enter Try.func4, Try.ntmps4
 go_wp2_with (first | ((with_reducible refine gate_callee (f := 15) rfl ?_); refine goesL_ (some 20) rfl rfl Try.func15 (by kernel_rfl) rfl #[.slice A0 l0.length c0] rfl qz4 ?_; (with_reducible refine (laws_big.calls _ _ l0 true _ ?side1 ?side2 A2.out).mono ?_); (case side1 => exact qz25); (case side2 => exact HC0.out); rintro e w' ⟨rfl, ⟨nd, rfl⟩⟩; refine ⟨_, rfl, ?_⟩))
 go_ret
 exact ⟨qzw, qz1⟩
 }
 {
 replace c3 := Bool.eq_false_iff.mpr c3
 subst c3
 rw [if_neg (show ¬ (false = true) by decide)] at H
 replace H := Option.bind_eq_some_iff.mp H
 obtain ⟨⟨t392, t395, t396, t397⟩, A40, H⟩ := H
 replace H : ((impl_PutIn.f k t392 t395 t396 t397).bind fun bt399 => ((spec_PutIn.f k t392 t395 t396 t397).bind fun bt404 => (if bt399.2 = bt404.2 then (if bt399.2 = 0 then ((impl_TakeOut.f k t392 t395 t396 1000).bind fun bt410 => ((spec_TakeOut.f k t392 t395 t396 1000).bind fun bt415 => ((impl_Hold.f k bt399.1 t395 t396 t397).bind fun bt420 => ((impl_TakeOut.f k bt420.1 t395 t396 t397).bind fun bt425 => (if bt410.2 = bt415.2 then ((impl_Free.f k bt399.1 t396).bind fun t430 => ((impl_Free.f k t392 t396).bind fun t431 => (if t430 = (wrap64 (t431 + t397)) then ((impl_Count.f k bt399.1 t396).bind fun t432 => ((impl_Count.f k t392 t396).bind fun t433 => (if t432 = (wrap64 (t433 + t397)) then (if bt420.2 = 0 then (if bt425.2 = 0 then ((laws_sameStock.f k bt425.1 t392).bind fun t434 => (if t434 = true then ((impl_StockOk.f k bt399.1).bind fun t435 => (some t435)) else (some false))) else (some false)) else (some false)) else (some false)))) else (some false)))) else (some false)))))) else ((laws_sameStock.f k bt399.1 t392).bind fun t409 => (some t409))) else (some false)))) = some r := H
 have A4 := aM A40
 clear A40
 replace H := Option.bind_eq_some_iff.mp H
 obtain ⟨⟨t399, t402⟩, A50, H⟩ := H
 replace H : ((spec_PutIn.f k t392 t395 t396 t397).bind fun bt404 => (if t402 = bt404.2 then (if t402 = 0 then ((impl_TakeOut.f k t392 t395 t396 1000).bind fun bt410 => ((spec_TakeOut.f k t392 t395 t396 1000).bind fun bt415 => ((impl_Hold.f k t399 t395 t396 t397).bind fun bt420 => ((impl_TakeOut.f k bt420.1 t395 t396 t397).bind fun bt425 => (if bt410.2 = bt415.2 then ((impl_Free.f k t399 t396).bind fun t430 => ((impl_Free.f k t392 t396).bind fun t431 => (if t430 = (wrap64 (t431 + t397)) then ((impl_Count.f k t399 t396).bind fun t432 => ((impl_Count.f k t392 t396).bind fun t433 => (if t432 = (wrap64 (t433 + t397)) then (if bt420.2 = 0 then (if bt425.2 = 0 then ((laws_sameStock.f k bt425.1 t392).bind fun t434 => (if t434 = true then ((impl_StockOk.f k t399).bind fun t435 => (some t435)) else (some false))) else (some false)) else (some false)) else (some false)))) else (some false)))) else (some false)))))) else ((laws_sameStock.f k t399 t392).bind fun t409 => (some t409))) else (some false))) = some r := H
 have A5 := aM A50
 clear A50
 replace H := Option.bind_eq_some_iff.mp H
 obtain ⟨⟨t404, t407⟩, A60, H⟩ := H
 replace H : (if t402 = t407 then (if t402 = 0 then ((impl_TakeOut.f k t392 t395 t396 1000).bind fun bt410 => ((spec_TakeOut.f k t392 t395 t396 1000).bind fun bt415 => ((impl_Hold.f k t399 t395 t396 t397).bind fun bt420 => ((impl_TakeOut.f k bt420.1 t395 t396 t397).bind fun bt425 => (if bt410.2 = bt415.2 then ((impl_Free.f k t399 t396).bind fun t430 => ((impl_Free.f k t392 t396).bind fun t431 => (if t430 = (wrap64 (t431 + t397)) then ((impl_Count.f k t399 t396).bind fun t432 => ((impl_Count.f k t392 t396).bind fun t433 => (if t432 = (wrap64 (t433 + t397)) then (if bt420.2 = 0 then (if bt425.2 = 0 then ((laws_sameStock.f k bt425.1 t392).bind fun t434 => (if t434 = true then ((impl_StockOk.f k t399).bind fun t435 => (some t435)) else (some false))) else (some false)) else (some false)) else (some false)))) else (some false)))) else (some false)))))) else ((laws_sameStock.f k t399 t392).bind fun t409 => (some t409))) else (some false)) = some r := H
 have A6 := aM A60
 clear A60
 by_cases c7 : t402 = t407
 {
 rw [if_pos c7] at H
 have c7b0 := beq_iff_eq.mpr c7
 have c7b1 := bne_eq_false_iff_eq.mpr c7
 clear c7
 by_cases c8 : t402 = 0
 {
 rw [if_pos c8] at H
 have c8b0 := beq_iff_eq.mpr c8
 have c8b1 := bne_eq_false_iff_eq.mpr c8
 clear c8
 replace H := Option.bind_eq_some_iff.mp H
 obtain ⟨⟨t410, t413⟩, A90, H⟩ := H
 replace H : ((spec_TakeOut.f k t392 t395 t396 1000).bind fun bt415 => ((impl_Hold.f k t399 t395 t396 t397).bind fun bt420 => ((impl_TakeOut.f k bt420.1 t395 t396 t397).bind fun bt425 => (if t413 = bt415.2 then ((impl_Free.f k t399 t396).bind fun t430 => ((impl_Free.f k t392 t396).bind fun t431 => (if t430 = (wrap64 (t431 + t397)) then ((impl_Count.f k t399 t396).bind fun t432 => ((impl_Count.f k t392 t396).bind fun t433 => (if t432 = (wrap64 (t433 + t397)) then (if bt420.2 = 0 then (if bt425.2 = 0 then ((laws_sameStock.f k bt425.1 t392).bind fun t434 => (if t434 = true then ((impl_StockOk.f k t399).bind fun t435 => (some t435)) else (some false))) else (some false)) else (some false)) else (some false)))) else (some false)))) else (some false))))) = some r := H
 have A9 := aM A90
 clear A90
 replace H := Option.bind_eq_some_iff.mp H
 obtain ⟨⟨t415, t418⟩, A100, H⟩ := H
 replace H : ((impl_Hold.f k t399 t395 t396 t397).bind fun bt420 => ((impl_TakeOut.f k bt420.1 t395 t396 t397).bind fun bt425 => (if t413 = t418 then ((impl_Free.f k t399 t396).bind fun t430 => ((impl_Free.f k t392 t396).bind fun t431 => (if t430 = (wrap64 (t431 + t397)) then ((impl_Count.f k t399 t396).bind fun t432 => ((impl_Count.f k t392 t396).bind fun t433 => (if t432 = (wrap64 (t433 + t397)) then (if bt420.2 = 0 then (if bt425.2 = 0 then ((laws_sameStock.f k bt425.1 t392).bind fun t434 => (if t434 = true then ((impl_StockOk.f k t399).bind fun t435 => (some t435)) else (some false))) else (some false)) else (some false)) else (some false)))) else (some false)))) else (some false)))) = some r := H
 have A10 := aM A100
 clear A100
 replace H := Option.bind_eq_some_iff.mp H
 obtain ⟨⟨t420, t423⟩, A110, H⟩ := H
 replace H : ((impl_TakeOut.f k t420 t395 t396 t397).bind fun bt425 => (if t413 = t418 then ((impl_Free.f k t399 t396).bind fun t430 => ((impl_Free.f k t392 t396).bind fun t431 => (if t430 = (wrap64 (t431 + t397)) then ((impl_Count.f k t399 t396).bind fun t432 => ((impl_Count.f k t392 t396).bind fun t433 => (if t432 = (wrap64 (t433 + t397)) then (if t423 = 0 then (if bt425.2 = 0 then ((laws_sameStock.f k bt425.1 t392).bind fun t434 => (if t434 = true then ((impl_StockOk.f k t399).bind fun t435 => (some t435)) else (some false))) else (some false)) else (some false)) else (some false)))) else (some false)))) else (some false))) = some r := H
 have A11 := aM A110
 clear A110
 replace H := Option.bind_eq_some_iff.mp H
 obtain ⟨⟨t425, t428⟩, A120, H⟩ := H
 replace H : (if t413 = t418 then ((impl_Free.f k t399 t396).bind fun t430 => ((impl_Free.f k t392 t396).bind fun t431 => (if t430 = (wrap64 (t431 + t397)) then ((impl_Count.f k t399 t396).bind fun t432 => ((impl_Count.f k t392 t396).bind fun t433 => (if t432 = (wrap64 (t433 + t397)) then (if t423 = 0 then (if t428 = 0 then ((laws_sameStock.f k t425 t392).bind fun t434 => (if t434 = true then ((impl_StockOk.f k t399).bind fun t435 => (some t435)) else (some false))) else (some false)) else (some false)) else (some false)))) else (some false)))) else (some false)) = some r := H
 have A12 := aM A120
 clear A120
 by_cases c13 : t413 = t418
 {
 rw [if_pos c13] at H
 have c13b0 := beq_iff_eq.mpr c13
 have c13b1 := bne_eq_false_iff_eq.mpr c13
 clear c13
 replace H := Option.bind_eq_some_iff.mp H
 obtain ⟨t430, A140, H⟩ := H
 replace H : ((impl_Free.f k t392 t396).bind fun t431 => (if t430 = (wrap64 (t431 + t397)) then ((impl_Count.f k t399 t396).bind fun t432 => ((impl_Count.f k t392 t396).bind fun t433 => (if t432 = (wrap64 (t433 + t397)) then (if t423 = 0 then (if t428 = 0 then ((laws_sameStock.f k t425 t392).bind fun t434 => (if t434 = true then ((impl_StockOk.f k t399).bind fun t435 => (some t435)) else (some false))) else (some false)) else (some false)) else (some false)))) else (some false))) = some r := H
 have A14 := aM A140
 clear A140
 replace H := Option.bind_eq_some_iff.mp H
 obtain ⟨t431, A150, H⟩ := H
 replace H : (if t430 = (wrap64 (t431 + t397)) then ((impl_Count.f k t399 t396).bind fun t432 => ((impl_Count.f k t392 t396).bind fun t433 => (if t432 = (wrap64 (t433 + t397)) then (if t423 = 0 then (if t428 = 0 then ((laws_sameStock.f k t425 t392).bind fun t434 => (if t434 = true then ((impl_StockOk.f k t399).bind fun t435 => (some t435)) else (some false))) else (some false)) else (some false)) else (some false)))) else (some false)) = some r := H
 have A15 := aM A150
 clear A150
 by_cases c16 : t430 = (wrap64 (t431 + t397))
 {
 rw [if_pos c16] at H
 have c16b0 := beq_iff_eq.mpr c16
 have c16b1 := bne_eq_false_iff_eq.mpr c16
 clear c16
 replace H := Option.bind_eq_some_iff.mp H
 obtain ⟨t432, A170, H⟩ := H
 replace H : ((impl_Count.f k t392 t396).bind fun t433 => (if t432 = (wrap64 (t433 + t397)) then (if t423 = 0 then (if t428 = 0 then ((laws_sameStock.f k t425 t392).bind fun t434 => (if t434 = true then ((impl_StockOk.f k t399).bind fun t435 => (some t435)) else (some false))) else (some false)) else (some false)) else (some false))) = some r := H
 have A17 := aM A170
 clear A170
 replace H := Option.bind_eq_some_iff.mp H
 obtain ⟨t433, A180, H⟩ := H
 replace H : (if t432 = (wrap64 (t433 + t397)) then (if t423 = 0 then (if t428 = 0 then ((laws_sameStock.f k t425 t392).bind fun t434 => (if t434 = true then ((impl_StockOk.f k t399).bind fun t435 => (some t435)) else (some false))) else (some false)) else (some false)) else (some false)) = some r := H
 have A18 := aM A180
 clear A180
 by_cases c19 : t432 = (wrap64 (t433 + t397))
 {
 rw [if_pos c19] at H
 have c19b0 := beq_iff_eq.mpr c19
 have c19b1 := bne_eq_false_iff_eq.mpr c19
 clear c19
 by_cases c20 : t423 = 0
 {
 rw [if_pos c20] at H
 have c20b0 := beq_iff_eq.mpr c20
 have c20b1 := bne_eq_false_iff_eq.mpr c20
 clear c20
 by_cases c21 : t428 = 0
 {
 rw [if_pos c21] at H
 have c21b0 := beq_iff_eq.mpr c21
 have c21b1 := bne_eq_false_iff_eq.mpr c21
 clear c21
 replace H := Option.bind_eq_some_iff.mp H
 obtain ⟨t434, A220, H⟩ := H
 replace H : (if t434 = true then ((impl_StockOk.f k t399).bind fun t435 => (some t435)) else (some false)) = some r := H
 have A22 := aM A220
 clear A220
 by_cases c23 : t434 = true
 {
 subst c23
 rw [if_pos rfl] at H
 replace H := Option.bind_eq_some_iff.mp H
 obtain ⟨t435, A240, H⟩ := H
 replace H : (some t435) = some r := H
 have A24 := aM A240
 clear A240
 obtain rfl := Option.some.inj H
 simp only [Option.some.injEq, Prod.mk.injEq] at H
 obtain ⟨rfl⟩ := H
 go_enter Try.func4, Try.ntmps4
 try go_wp2_with (first | ((with_reducible refine gate_callee (f := 15) rfl ?_); refine goesL_ (some 20) rfl rfl Try.func15 (by kernel_rfl) rfl #[.slice A0 l0.length c0] rfl qz4 ?_; (with_reducible refine (laws_big.calls _ _ l0 false _ ?side1 ?side2 A2.out).mono ?_); (case side1 => exact qz25); (case side2 => exact HC0.out); rintro e w' ⟨rfl, ⟨nd, rfl⟩⟩; refine ⟨_, rfl, ?_⟩) | ((with_reducible refine gate_callee (f := 24) rfl ?_); refine goesL_ (some 23) rfl rfl Try.func24 (by kernel_rfl) rfl #[.slice A0 l0.length c0] rfl qz4 ?_; (with_reducible refine (spec_DrawPutIn.calls k _ _ l0 t392 t395 t396 t397 _ ?side1 ?side2 A4.out).mono ?_); (case side1 => exact qz25); (case side2 => exact HC0.out); rintro e w25 ⟨v393, rfl, ho0, hb⟩; refine ⟨_, rfl, ?_⟩; have HO394 := aM (Kd.N_lower (Kd.N_mono (ok' := fun k_ => True) ho0 (fun k_ hk_ => trivial)) (below_size qz1)); replace HB := bS_ hb; (try clear hb); (try clear hb2); (try clear hk); (try clear hi); (try clear ho0)) | ((with_reducible refine gate_dst (N := 3) rfl ?_); refine bx_ 3 #[.slice none 0 0] 26 ?_; intro gb398 hg w26 hbox hb; replace HO394 := aM (Kd.N_below (Kd.N_elderB qz8 gb398 (Nat.le_of_eq hg.symm)) hb); have BK398 := aM (hbox); have GW398 := aM (bz_ w hg qz1); have GE398 := GW398; replace HB := bS_ hb; clear hb hbox hg; obtain ⟨Ao27, co27, eo27⟩ := Kd.N_slice HO394.out; subst eo27; obtain ⟨hcz28_0, hfz28_0⟩ := bf_ BK398.out) | ((with_reducible refine gate_callee (f := 25) rfl ?_); refine goesL_ (some 33) rfl rfl Try.func25 (by kernel_rfl) rfl #[.agg #[.slice Ao27 t392.length co27], .int .i64 t395, .int .i64 t396, .int .i64 t397] rfl qz4 ?_; (with_reducible refine (impl_PutIn.calls k _ _ t392 t395 t396 t397 t399 t402 _ ?side1 ?side2 A5.out).mono ?_); (case side1 => refine (Kd.N_reads' (e := 79) (base := w.heap.size) (ok := fun k_ => (True ∧ k_ ≠ gb398)) (n := t392.length) (c := co27) ?_).2.2; exact (by (with_reducible repeat (first | apply Kd.N_alloc | apply Kd.N_drewN | apply Kd.N_drew)); exact (Kd.N_mono (Kd.N_far (p := ⟨gb398, 0, none⟩) (Kd.N_mono HO394.out (fun k_ hk => (⟨hk, hk.2⟩ : _ ∧ k_ ≠ gb398))) (fun _ hk => hk.2) (.slice Ao27 t392.length co27)) (fun _ h_ => h_.1)))); (case side2 => exact qz39); rintro e w29 ⟨v400, rfl, ho0, hb⟩; refine ⟨_, rfl, ?_⟩; have HO401 := aM (Kd.N_lower (Kd.N_mono (ok' := fun k_ => some k_ ≠ (.slice Ao27 t392.length co27 : Value).ownBlock ∧ k_ ≠ gb398) (Kd.S_N (Kd.S_bound ho0)) (fun k_ hk_ => ⟨(Kd.fresh' (Kd.N_lt (by (with_reducible repeat (first | apply Kd.N_alloc | apply Kd.N_drewN | apply Kd.N_drew)); exact (Kd.N_mono (Kd.N_far (p := ⟨gb398, 0, none⟩) (Kd.N_mono HO394.out (fun k_ hk => (⟨hk, hk.2⟩ : _ ∧ k_ ≠ gb398))) (fun _ hk => hk.2) (.slice Ao27 t392.length co27)) (fun _ h_ => h_.1)))) k_ hk_.2.1), (Kd.freshB (g := gb398) (o := .cells #[.slice Ao27 t392.length co27] 26 (0, 0)) (by (with_reducible repeat (first | refine blk_drewN ?_ _ | refine blk_drew ?_ | refine blk_alloc ?_ _)); refine blk_put (cs := #[.slice none 0 0]) ?_ 0 _ rfl; exact bk_ BK398.out) k_ hk_.2.1)⟩)) (below_size qz1)); replace HO394 := aM (Kd.N_elder' (by (with_reducible repeat (first | apply Kd.N_alloc | apply Kd.N_drewN | apply Kd.N_drew)); exact (Kd.N_mono (Kd.N_far (p := ⟨gb398, 0, none⟩) (Kd.N_mono HO394.out (fun k_ hk => (⟨hk, hk.2⟩ : _ ∧ k_ ≠ gb398))) (fun _ hk => hk.2) (.slice Ao27 t392.length co27)) (fun _ h_ => h_.1))) (Kd.S_base ho0) hb); replace BK398 := aM (blk_below (g := gb398) (o := .cells #[.slice Ao27 t392.length co27] 26 (0, 0)) (by (with_reducible repeat (first | refine blk_drewN ?_ _ | refine blk_drew ?_ | refine blk_alloc ?_ _)); refine blk_put (cs := #[.slice none 0 0]) ?_ 0 _ rfl; exact bk_ BK398.out) hb); replace HB := bS_ hb; (try clear hb); (try clear hb2); (try clear hk); (try clear hi); (try clear ho0)) | ((with_reducible refine gate_dst (N := 7) rfl ?_); refine bx_ 7 #[.slice none 0 0] 26 ?_; intro gb403 hg w30 hbox hb; replace HO394 := aM (Kd.N_below (Kd.N_elderB qz8 gb403 (Nat.le_of_eq hg.symm)) hb); replace HO401 := aM (Kd.N_below (Kd.N_elderB qz10 gb403 (Nat.le_of_eq hg.symm)) hb); have BK403 := aM (hbox); have GW403 := aM (bz_ w hg qz1); have GE403 := GW403; replace HB := bS_ hb; obtain ⟨NB398_403, NB403_398⟩ := nb_ hg (bk_ BK398.out); replace BK398 := bB_ BK398 hb; clear hb hbox hg; obtain ⟨Ao31, co31, eo31⟩ := Kd.N_slice HO401.out; subst eo31; have hnb32 := NB403_398.out; have hnc32 := NB398_403.out; obtain ⟨hcz33_0, hfz33_0⟩ := bf_ BK403.out; obtain ⟨hcz34_0, hfz34_0⟩ := bf_ BK398.out) | ((with_reducible refine gate_callee (f := 26) rfl ?_); refine goesL_ (some 41) rfl rfl Try.func26 (by kernel_rfl) rfl #[.agg #[.slice Ao27 t392.length co27], .int .i64 t395, .int .i64 t396, .int .i64 t397] rfl qz4 ?_; (with_reducible refine (spec_PutIn.calls k _ _ t392 t395 t396 t397 t404 t407 _ ?side1 ?side2 A6.out).mono ?_); (case side1 => refine (Kd.N_reads' (e := 79) (base := w.heap.size) (ok := fun k_ => (((True ∧ k_ ≠ gb398) ∧ some k_ ≠ (.slice Ao31 t399.length co31 : Value).ownBlock) ∧ k_ ≠ gb403)) (n := t392.length) (c := co27) ?_).2.2; exact (by (with_reducible repeat (first | apply Kd.N_alloc | apply Kd.N_drewN | apply Kd.N_drew)); exact (Kd.N_mono (Kd.N_far (p := ⟨gb403, 0, none⟩) (Kd.N_mono HO394.out (fun k_ hk => (⟨hk, hk.2⟩ : _ ∧ k_ ≠ gb403))) (fun _ hk => hk.2) (.slice Ao31 t399.length co31)) (fun _ h_ => h_.1)))); (case side2 => exact qz39); rintro e w35 ⟨v405, rfl, ho0, hb⟩; refine ⟨_, rfl, ?_⟩; have HO406 := aM (Kd.N_lower (Kd.N_mono (ok' := fun k_ => some k_ ≠ (.slice Ao27 t392.length co27 : Value).ownBlock ∧ some k_ ≠ (.slice Ao31 t399.length co31 : Value).ownBlock ∧ k_ ≠ gb398 ∧ k_ ≠ gb403) (Kd.S_N (Kd.S_bound ho0)) (fun k_ hk_ => ⟨(Kd.fresh' (Kd.N_lt (by (with_reducible repeat (first | apply Kd.N_alloc | apply Kd.N_drewN | apply Kd.N_drew)); exact (Kd.N_mono (Kd.N_far (p := ⟨gb403, 0, none⟩) (Kd.N_mono HO394.out (fun k_ hk => (⟨hk, hk.2⟩ : _ ∧ k_ ≠ gb403))) (fun _ hk => hk.2) (.slice Ao31 t399.length co31)) (fun _ h_ => h_.1)))) k_ hk_.2.1), (Kd.fresh' (Kd.N_lt (by (with_reducible repeat (first | apply Kd.N_alloc | apply Kd.N_drewN | apply Kd.N_drew)); exact (Kd.N_mono (Kd.N_far (p := ⟨gb403, 0, none⟩) (Kd.N_mono HO401.out (fun k_ hk => (⟨hk, hk.2⟩ : _ ∧ k_ ≠ gb403))) (fun _ hk => hk.2) (.slice Ao31 t399.length co31)) (fun _ h_ => h_.1)))) k_ hk_.2.1), (Kd.freshB (g := gb398) (o := .cells #[.slice Ao27 t392.length co27] 26 (0, 0)) (bk2_ BK398.out) k_ hk_.2.1), (Kd.freshB (g := gb403) (o := .cells #[.slice Ao31 t399.length co31] 26 (0, 0)) (by (with_reducible repeat (first | refine blk_drewN ?_ _ | refine blk_drew ?_ | refine blk_alloc ?_ _)); refine blk_put (cs := #[.slice none 0 0]) ?_ 0 _ rfl; exact bk_ BK403.out) k_ hk_.2.1)⟩)) (below_size qz1)); replace HO394 := aM (Kd.N_elder' (by (with_reducible repeat (first | apply Kd.N_alloc | apply Kd.N_drewN | apply Kd.N_drew)); exact (Kd.N_mono (Kd.N_far (p := ⟨gb403, 0, none⟩) (Kd.N_mono HO394.out (fun k_ hk => (⟨hk, hk.2⟩ : _ ∧ k_ ≠ gb403))) (fun _ hk => hk.2) (.slice Ao31 t399.length co31)) (fun _ h_ => h_.1))) (Kd.S_base ho0) hb); replace HO401 := aM (Kd.N_elder' (by (with_reducible repeat (first | apply Kd.N_alloc | apply Kd.N_drewN | apply Kd.N_drew)); exact (Kd.N_mono (Kd.N_far (p := ⟨gb403, 0, none⟩) (Kd.N_mono HO401.out (fun k_ hk => (⟨hk, hk.2⟩ : _ ∧ k_ ≠ gb403))) (fun _ hk => hk.2) (.slice Ao31 t399.length co31)) (fun _ h_ => h_.1))) (Kd.S_base ho0) hb); replace BK398 := aM (blk_below (g := gb398) (o := .cells #[.slice Ao27 t392.length co27] 26 (0, 0)) (bk2_ BK398.out) hb); replace BK403 := aM (blk_below (g := gb403) (o := .cells #[.slice Ao31 t399.length co31] 26 (0, 0)) (by (with_reducible repeat (first | refine blk_drewN ?_ _ | refine blk_drew ?_ | refine blk_alloc ?_ _)); refine blk_put (cs := #[.slice none 0 0]) ?_ 0 _ rfl; exact bk_ BK403.out) hb); replace HB := bS_ hb; (try clear hb); (try clear hb2); (try clear hk); (try clear hi); (try clear ho0)) | ((with_reducible refine gate_dst (N := 9) rfl ?_); refine bx_ 9 #[.slice none 0 0] 26 ?_; intro gb408 hg w36 hbox hb; replace HO394 := aM (Kd.N_below (Kd.N_elderB qz8 gb408 (Nat.le_of_eq hg.symm)) hb); replace HO401 := aM (Kd.N_below (Kd.N_elderB qz10 gb408 (Nat.le_of_eq hg.symm)) hb); replace HO406 := aM (Kd.N_below (Kd.N_elderB qz14 gb408 (Nat.le_of_eq hg.symm)) hb); have BK408 := aM (hbox); have GW408 := aM (bz_ w hg qz1); have GE408 := GW408; replace HB := bS_ hb; obtain ⟨NB398_408, NB408_398⟩ := nb_ hg (bk_ BK398.out); replace BK398 := bB_ BK398 hb; obtain ⟨NB403_408, NB408_403⟩ := nb_ hg (bk_ BK403.out); replace BK403 := bB_ BK403 hb; clear hb hbox hg; obtain ⟨Ao37, co37, eo37⟩ := Kd.N_slice HO406.out; subst eo37; have hnb38 := NB408_398.out; have hnc38 := NB398_408.out; have hnb39 := NB408_403.out; have hnc39 := NB403_408.out; obtain ⟨hcz40_0, hfz40_0⟩ := bf_ BK408.out; obtain ⟨hcz41_0, hfz41_0⟩ := bf_ BK398.out) | ((with_reducible refine gate_callee (f := 27) rfl ?_); refine goesL_ (some 56) rfl rfl Try.func27 (by kernel_rfl) rfl #[.agg #[.slice Ao27 t392.length co27], .int .i64 t395, .int .i64 t396, .int .i64 1000] rfl qz4 ?_; (with_reducible refine (impl_TakeOut.calls k _ _ t392 t395 t396 1000 t410 t413 _ ?side1 ?side2 A9.out).mono ?_); (case side1 => refine (Kd.N_reads' (e := 79) (base := w.heap.size) (ok := fun k_ => (((((True ∧ k_ ≠ gb398) ∧ some k_ ≠ (.slice Ao31 t399.length co31 : Value).ownBlock) ∧ k_ ≠ gb403) ∧ some k_ ≠ (.slice Ao37 t404.length co37 : Value).ownBlock) ∧ k_ ≠ gb408)) (n := t392.length) (c := co27) ?_).2.2; exact (by (with_reducible repeat (first | apply Kd.N_alloc | apply Kd.N_drewN | apply Kd.N_drew)); exact (Kd.N_mono (Kd.N_far (p := ⟨gb408, 0, none⟩) (Kd.N_mono HO394.out (fun k_ hk => (⟨hk, hk.2⟩ : _ ∧ k_ ≠ gb408))) (fun _ hk => hk.2) (.slice Ao37 t404.length co37)) (fun _ h_ => h_.1)))); (case side2 => exact qz39); rintro e w42 ⟨v411, rfl, ho0, hb⟩; refine ⟨_, rfl, ?_⟩; have HO412 := aM (Kd.N_lower (Kd.N_mono (ok' := fun k_ => some k_ ≠ (.slice Ao27 t392.length co27 : Value).ownBlock ∧ some k_ ≠ (.slice Ao31 t399.length co31 : Value).ownBlock ∧ some k_ ≠ (.slice Ao37 t404.length co37 : Value).ownBlock ∧ k_ ≠ gb398 ∧ k_ ≠ gb403 ∧ k_ ≠ gb408) (Kd.S_N (Kd.S_bound ho0)) (fun k_ hk_ => ⟨(Kd.fresh' (Kd.N_lt (by (with_reducible repeat (first | apply Kd.N_alloc | apply Kd.N_drewN | apply Kd.N_drew)); exact (Kd.N_mono (Kd.N_far (p := ⟨gb408, 0, none⟩) (Kd.N_mono HO394.out (fun k_ hk => (⟨hk, hk.2⟩ : _ ∧ k_ ≠ gb408))) (fun _ hk => hk.2) (.slice Ao37 t404.length co37)) (fun _ h_ => h_.1)))) k_ hk_.2.1), (Kd.fresh' (Kd.N_lt (by (with_reducible repeat (first | apply Kd.N_alloc | apply Kd.N_drewN | apply Kd.N_drew)); exact (Kd.N_mono (Kd.N_far (p := ⟨gb408, 0, none⟩) (Kd.N_mono HO401.out (fun k_ hk => (⟨hk, hk.2⟩ : _ ∧ k_ ≠ gb408))) (fun _ hk => hk.2) (.slice Ao37 t404.length co37)) (fun _ h_ => h_.1)))) k_ hk_.2.1), (Kd.fresh' (Kd.N_lt (by (with_reducible repeat (first | apply Kd.N_alloc | apply Kd.N_drewN | apply Kd.N_drew)); exact (Kd.N_mono (Kd.N_far (p := ⟨gb408, 0, none⟩) (Kd.N_mono HO406.out (fun k_ hk => (⟨hk, hk.2⟩ : _ ∧ k_ ≠ gb408))) (fun _ hk => hk.2) (.slice Ao37 t404.length co37)) (fun _ h_ => h_.1)))) k_ hk_.2.1), (Kd.freshB (g := gb398) (o := .cells #[.slice Ao27 t392.length co27] 26 (0, 0)) (bk2_ BK398.out) k_ hk_.2.1), (Kd.freshB (g := gb403) (o := .cells #[.slice Ao31 t399.length co31] 26 (0, 0)) (bk2_ BK403.out) k_ hk_.2.1), (Kd.freshB (g := gb408) (o := .cells #[.slice Ao37 t404.length co37] 26 (0, 0)) (by (with_reducible repeat (first | refine blk_drewN ?_ _ | refine blk_drew ?_ | refine blk_alloc ?_ _)); refine blk_put (cs := #[.slice none 0 0]) ?_ 0 _ rfl; exact bk_ BK408.out) k_ hk_.2.1)⟩)) (below_size qz1)); replace HO394 := aM (Kd.N_elder' (by (with_reducible repeat (first | apply Kd.N_alloc | apply Kd.N_drewN | apply Kd.N_drew)); exact (Kd.N_mono (Kd.N_far (p := ⟨gb408, 0, none⟩) (Kd.N_mono HO394.out (fun k_ hk => (⟨hk, hk.2⟩ : _ ∧ k_ ≠ gb408))) (fun _ hk => hk.2) (.slice Ao37 t404.length co37)) (fun _ h_ => h_.1))) (Kd.S_base ho0) hb); replace HO401 := aM (Kd.N_elder' (by (with_reducible repeat (first | apply Kd.N_alloc | apply Kd.N_drewN | apply Kd.N_drew)); exact (Kd.N_mono (Kd.N_far (p := ⟨gb408, 0, none⟩) (Kd.N_mono HO401.out (fun k_ hk => (⟨hk, hk.2⟩ : _ ∧ k_ ≠ gb408))) (fun _ hk => hk.2) (.slice Ao37 t404.length co37)) (fun _ h_ => h_.1))) (Kd.S_base ho0) hb); replace HO406 := aM (Kd.N_elder' (by (with_reducible repeat (first | apply Kd.N_alloc | apply Kd.N_drewN | apply Kd.N_drew)); exact (Kd.N_mono (Kd.N_far (p := ⟨gb408, 0, none⟩) (Kd.N_mono HO406.out (fun k_ hk => (⟨hk, hk.2⟩ : _ ∧ k_ ≠ gb408))) (fun _ hk => hk.2) (.slice Ao37 t404.length co37)) (fun _ h_ => h_.1))) (Kd.S_base ho0) hb); replace BK398 := aM (blk_below (g := gb398) (o := .cells #[.slice Ao27 t392.length co27] 26 (0, 0)) (bk2_ BK398.out) hb); replace BK403 := aM (blk_below (g := gb403) (o := .cells #[.slice Ao31 t399.length co31] 26 (0, 0)) (bk2_ BK403.out) hb); replace BK408 := aM (blk_below (g := gb408) (o := .cells #[.slice Ao37 t404.length co37] 26 (0, 0)) (by (with_reducible repeat (first | refine blk_drewN ?_ _ | refine blk_drew ?_ | refine blk_alloc ?_ _)); refine blk_put (cs := #[.slice none 0 0]) ?_ 0 _ rfl; exact bk_ BK408.out) hb); replace HB := bS_ hb; (try clear hb); (try clear hb2); (try clear hk); (try clear hi); (try clear ho0)) | ((with_reducible refine gate_dst (N := 11) rfl ?_); refine bx_ 11 #[.slice none 0 0] 26 ?_; intro gb414 hg w43 hbox hb; replace HO394 := aM (Kd.N_below (Kd.N_elderB qz8 gb414 (Nat.le_of_eq hg.symm)) hb); replace HO401 := aM (Kd.N_below (Kd.N_elderB qz10 gb414 (Nat.le_of_eq hg.symm)) hb); replace HO406 := aM (Kd.N_below (Kd.N_elderB qz14 gb414 (Nat.le_of_eq hg.symm)) hb); replace HO412 := aM (Kd.N_below (Kd.N_elderB qz19 gb414 (Nat.le_of_eq hg.symm)) hb); have BK414 := aM (hbox); have GW414 := aM (bz_ w hg qz1); have GE414 := GW414; replace HB := bS_ hb; obtain ⟨NB398_414, NB414_398⟩ := nb_ hg (bk_ BK398.out); replace BK398 := bB_ BK398 hb; obtain ⟨NB403_414, NB414_403⟩ := nb_ hg (bk_ BK403.out); replace BK403 := bB_ BK403 hb; obtain ⟨NB408_414, NB414_408⟩ := nb_ hg (bk_ BK408.out); replace BK408 := bB_ BK408 hb; clear hb hbox hg; obtain ⟨Ao44, co44, eo44⟩ := Kd.N_slice HO412.out; subst eo44; have hnb45 := NB414_398.out; have hnc45 := NB398_414.out; have hnb46 := NB414_403.out; have hnc46 := NB403_414.out; have hnb47 := NB414_408.out; have hnc47 := NB408_414.out; obtain ⟨hcz48_0, hfz48_0⟩ := bf_ BK414.out; obtain ⟨hcz49_0, hfz49_0⟩ := bf_ BK398.out) | ((with_reducible refine gate_callee (f := 28) rfl ?_); refine goesL_ (some 63) rfl rfl Try.func28 (by kernel_rfl) rfl #[.agg #[.slice Ao27 t392.length co27], .int .i64 t395, .int .i64 t396, .int .i64 1000] rfl qz4 ?_; (with_reducible refine (spec_TakeOut.calls k _ _ t392 t395 t396 1000 t415 t418 _ ?side1 ?side2 A10.out).mono ?_); (case side1 => refine (Kd.N_reads' (e := 79) (base := w.heap.size) (ok := fun k_ => (((((((True ∧ k_ ≠ gb398) ∧ some k_ ≠ (.slice Ao31 t399.length co31 : Value).ownBlock) ∧ k_ ≠ gb403) ∧ some k_ ≠ (.slice Ao37 t404.length co37 : Value).ownBlock) ∧ k_ ≠ gb408) ∧ some k_ ≠ (.slice Ao44 t410.length co44 : Value).ownBlock) ∧ k_ ≠ gb414)) (n := t392.length) (c := co27) ?_).2.2; exact (by (with_reducible repeat (first | apply Kd.N_alloc | apply Kd.N_drewN | apply Kd.N_drew)); exact (Kd.N_mono (Kd.N_far (p := ⟨gb414, 0, none⟩) (Kd.N_mono HO394.out (fun k_ hk => (⟨hk, hk.2⟩ : _ ∧ k_ ≠ gb414))) (fun _ hk => hk.2) (.slice Ao44 t410.length co44)) (fun _ h_ => h_.1)))); (case side2 => exact qz39); rintro e w50 ⟨v416, rfl, ho0, hb⟩; refine ⟨_, rfl, ?_⟩; have HO417 := aM (Kd.N_lower (Kd.N_mono (ok' := fun k_ => some k_ ≠ (.slice Ao27 t392.length co27 : Value).ownBlock ∧ some k_ ≠ (.slice Ao31 t399.length co31 : Value).ownBlock ∧ some k_ ≠ (.slice Ao37 t404.length co37 : Value).ownBlock ∧ some k_ ≠ (.slice Ao44 t410.length co44 : Value).ownBlock ∧ k_ ≠ gb398 ∧ k_ ≠ gb403 ∧ k_ ≠ gb408 ∧ k_ ≠ gb414) (Kd.S_N (Kd.S_bound ho0)) (fun k_ hk_ => ⟨(Kd.fresh' (Kd.N_lt (by (with_reducible repeat (first | apply Kd.N_alloc | apply Kd.N_drewN | apply Kd.N_drew)); exact (Kd.N_mono (Kd.N_far (p := ⟨gb414, 0, none⟩) (Kd.N_mono HO394.out (fun k_ hk => (⟨hk, hk.2⟩ : _ ∧ k_ ≠ gb414))) (fun _ hk => hk.2) (.slice Ao44 t410.length co44)) (fun _ h_ => h_.1)))) k_ hk_.2.1), (Kd.fresh' (Kd.N_lt (by (with_reducible repeat (first | apply Kd.N_alloc | apply Kd.N_drewN | apply Kd.N_drew)); exact (Kd.N_mono (Kd.N_far (p := ⟨gb414, 0, none⟩) (Kd.N_mono HO401.out (fun k_ hk => (⟨hk, hk.2⟩ : _ ∧ k_ ≠ gb414))) (fun _ hk => hk.2) (.slice Ao44 t410.length co44)) (fun _ h_ => h_.1)))) k_ hk_.2.1), (Kd.fresh' (Kd.N_lt (by (with_reducible repeat (first | apply Kd.N_alloc | apply Kd.N_drewN | apply Kd.N_drew)); exact (Kd.N_mono (Kd.N_far (p := ⟨gb414, 0, none⟩) (Kd.N_mono HO406.out (fun k_ hk => (⟨hk, hk.2⟩ : _ ∧ k_ ≠ gb414))) (fun _ hk => hk.2) (.slice Ao44 t410.length co44)) (fun _ h_ => h_.1)))) k_ hk_.2.1), (Kd.fresh' (Kd.N_lt (by (with_reducible repeat (first | apply Kd.N_alloc | apply Kd.N_drewN | apply Kd.N_drew)); exact (Kd.N_mono (Kd.N_far (p := ⟨gb414, 0, none⟩) (Kd.N_mono HO412.out (fun k_ hk => (⟨hk, hk.2⟩ : _ ∧ k_ ≠ gb414))) (fun _ hk => hk.2) (.slice Ao44 t410.length co44)) (fun _ h_ => h_.1)))) k_ hk_.2.1), (Kd.freshB (g := gb398) (o := .cells #[.slice Ao27 t392.length co27] 26 (0, 0)) (bk2_ BK398.out) k_ hk_.2.1), (Kd.freshB (g := gb403) (o := .cells #[.slice Ao31 t399.length co31] 26 (0, 0)) (bk2_ BK403.out) k_ hk_.2.1), (Kd.freshB (g := gb408) (o := .cells #[.slice Ao37 t404.length co37] 26 (0, 0)) (bk2_ BK408.out) k_ hk_.2.1), (Kd.freshB (g := gb414) (o := .cells #[.slice Ao44 t410.length co44] 26 (0, 0)) (by (with_reducible repeat (first | refine blk_drewN ?_ _ | refine blk_drew ?_ | refine blk_alloc ?_ _)); refine blk_put (cs := #[.slice none 0 0]) ?_ 0 _ rfl; exact bk_ BK414.out) k_ hk_.2.1)⟩)) (below_size qz1)); replace HO394 := aM (Kd.N_elder' (by (with_reducible repeat (first | apply Kd.N_alloc | apply Kd.N_drewN | apply Kd.N_drew)); exact (Kd.N_mono (Kd.N_far (p := ⟨gb414, 0, none⟩) (Kd.N_mono HO394.out (fun k_ hk => (⟨hk, hk.2⟩ : _ ∧ k_ ≠ gb414))) (fun _ hk => hk.2) (.slice Ao44 t410.length co44)) (fun _ h_ => h_.1))) (Kd.S_base ho0) hb); replace HO401 := aM (Kd.N_elder' (by (with_reducible repeat (first | apply Kd.N_alloc | apply Kd.N_drewN | apply Kd.N_drew)); exact (Kd.N_mono (Kd.N_far (p := ⟨gb414, 0, none⟩) (Kd.N_mono HO401.out (fun k_ hk => (⟨hk, hk.2⟩ : _ ∧ k_ ≠ gb414))) (fun _ hk => hk.2) (.slice Ao44 t410.length co44)) (fun _ h_ => h_.1))) (Kd.S_base ho0) hb); replace HO406 := aM (Kd.N_elder' (by (with_reducible repeat (first | apply Kd.N_alloc | apply Kd.N_drewN | apply Kd.N_drew)); exact (Kd.N_mono (Kd.N_far (p := ⟨gb414, 0, none⟩) (Kd.N_mono HO406.out (fun k_ hk => (⟨hk, hk.2⟩ : _ ∧ k_ ≠ gb414))) (fun _ hk => hk.2) (.slice Ao44 t410.length co44)) (fun _ h_ => h_.1))) (Kd.S_base ho0) hb); replace HO412 := aM (Kd.N_elder' (by (with_reducible repeat (first | apply Kd.N_alloc | apply Kd.N_drewN | apply Kd.N_drew)); exact (Kd.N_mono (Kd.N_far (p := ⟨gb414, 0, none⟩) (Kd.N_mono HO412.out (fun k_ hk => (⟨hk, hk.2⟩ : _ ∧ k_ ≠ gb414))) (fun _ hk => hk.2) (.slice Ao44 t410.length co44)) (fun _ h_ => h_.1))) (Kd.S_base ho0) hb); replace BK398 := aM (blk_below (g := gb398) (o := .cells #[.slice Ao27 t392.length co27] 26 (0, 0)) (bk2_ BK398.out) hb); replace BK403 := aM (blk_below (g := gb403) (o := .cells #[.slice Ao31 t399.length co31] 26 (0, 0)) (bk2_ BK403.out) hb); replace BK408 := aM (blk_below (g := gb408) (o := .cells #[.slice Ao37 t404.length co37] 26 (0, 0)) (bk2_ BK408.out) hb); replace BK414 := aM (blk_below (g := gb414) (o := .cells #[.slice Ao44 t410.length co44] 26 (0, 0)) (by (with_reducible repeat (first | refine blk_drewN ?_ _ | refine blk_drew ?_ | refine blk_alloc ?_ _)); refine blk_put (cs := #[.slice none 0 0]) ?_ 0 _ rfl; exact bk_ BK414.out) hb); replace HB := bS_ hb; (try clear hb); (try clear hb2); (try clear hk); (try clear hi); (try clear ho0)) | ((with_reducible refine gate_dst (N := 13) rfl ?_); refine bx_ 13 #[.slice none 0 0] 26 ?_; intro gb419 hg w51 hbox hb; replace HO394 := aM (Kd.N_below (Kd.N_elderB qz8 gb419 (Nat.le_of_eq hg.symm)) hb); replace HO401 := aM (Kd.N_below (Kd.N_elderB qz10 gb419 (Nat.le_of_eq hg.symm)) hb); replace HO406 := aM (Kd.N_below (Kd.N_elderB qz14 gb419 (Nat.le_of_eq hg.symm)) hb); replace HO412 := aM (Kd.N_below (Kd.N_elderB qz19 gb419 (Nat.le_of_eq hg.symm)) hb); replace HO417 := aM (Kd.N_below (Kd.N_elderB qz20 gb419 (Nat.le_of_eq hg.symm)) hb); have BK419 := aM (hbox); have GW419 := aM (bz_ w hg qz1); have GE419 := GW419; replace HB := bS_ hb; obtain ⟨NB398_419, NB419_398⟩ := nb_ hg (bk_ BK398.out); replace BK398 := bB_ BK398 hb; obtain ⟨NB403_419, NB419_403⟩ := nb_ hg (bk_ BK403.out); replace BK403 := bB_ BK403 hb; obtain ⟨NB408_419, NB419_408⟩ := nb_ hg (bk_ BK408.out); replace BK408 := bB_ BK408 hb; obtain ⟨NB414_419, NB419_414⟩ := nb_ hg (bk_ BK414.out); replace BK414 := bB_ BK414 hb; clear hb hbox hg; obtain ⟨Ao52, co52, eo52⟩ := Kd.N_slice HO417.out; subst eo52; have hnb53 := NB419_398.out; have hnc53 := NB398_419.out; have hnb54 := NB419_403.out; have hnc54 := NB403_419.out; have hnb55 := NB419_408.out; have hnc55 := NB408_419.out; have hnb56 := NB419_414.out; have hnc56 := NB414_419.out; obtain ⟨hcz57_0, hfz57_0⟩ := bf_ BK419.out; obtain ⟨hcz58_0, hfz58_0⟩ := bf_ BK403.out) | ((with_reducible refine gate_callee (f := 17) rfl ?_); refine goesL_ (some 71) rfl rfl Try.func17 (by kernel_rfl) rfl #[.agg #[.slice Ao31 t399.length co31], .int .i64 t395, .int .i64 t396, .int .i64 t397] rfl qz4 ?_; (with_reducible refine (impl_Hold.calls k _ _ t399 t395 t396 t397 t420 t423 _ ?side1 ?side2 A11.out).mono ?_); (case side1 => refine (Kd.N_reads' (e := 79) (base := w.heap.size) (ok := fun k_ => ((((((((some k_ ≠ (.slice Ao27 t392.length co27 : Value).ownBlock ∧ k_ ≠ gb398) ∧ k_ ≠ gb403) ∧ some k_ ≠ (.slice Ao37 t404.length co37 : Value).ownBlock) ∧ k_ ≠ gb408) ∧ some k_ ≠ (.slice Ao44 t410.length co44 : Value).ownBlock) ∧ k_ ≠ gb414) ∧ some k_ ≠ (.slice Ao52 t415.length co52 : Value).ownBlock) ∧ k_ ≠ gb419)) (n := t399.length) (c := co31) ?_).2.2; exact (by (with_reducible repeat (first | apply Kd.N_alloc | apply Kd.N_drewN | apply Kd.N_drew)); exact (Kd.N_mono (Kd.N_far (p := ⟨gb419, 0, none⟩) (Kd.N_mono HO401.out (fun k_ hk => (⟨hk, hk.2⟩ : _ ∧ k_ ≠ gb419))) (fun _ hk => hk.2) (.slice Ao52 t415.length co52)) (fun _ h_ => h_.1)))); (case side2 => exact (Kd.N_reads' HO401.out).2.1); rintro e w59 ⟨v421, rfl, ho0, hb⟩; refine ⟨_, rfl, ?_⟩; have HO422 := aM (Kd.N_lower (Kd.N_mono (ok' := fun k_ => some k_ ≠ (.slice Ao27 t392.length co27 : Value).ownBlock ∧ some k_ ≠ (.slice Ao31 t399.length co31 : Value).ownBlock ∧ some k_ ≠ (.slice Ao37 t404.length co37 : Value).ownBlock ∧ some k_ ≠ (.slice Ao44 t410.length co44 : Value).ownBlock ∧ some k_ ≠ (.slice Ao52 t415.length co52 : Value).ownBlock ∧ k_ ≠ gb398 ∧ k_ ≠ gb403 ∧ k_ ≠ gb408 ∧ k_ ≠ gb414 ∧ k_ ≠ gb419) (Kd.S_N (Kd.S_bound ho0)) (fun k_ hk_ => ⟨(Kd.fresh' (Kd.N_lt (by (with_reducible repeat (first | apply Kd.N_alloc | apply Kd.N_drewN | apply Kd.N_drew)); exact (Kd.N_mono (Kd.N_far (p := ⟨gb419, 0, none⟩) (Kd.N_mono HO394.out (fun k_ hk => (⟨hk, hk.2⟩ : _ ∧ k_ ≠ gb419))) (fun _ hk => hk.2) (.slice Ao52 t415.length co52)) (fun _ h_ => h_.1)))) k_ hk_.2.1), (Kd.fresh' (Kd.N_lt (by (with_reducible repeat (first | apply Kd.N_alloc | apply Kd.N_drewN | apply Kd.N_drew)); exact (Kd.N_mono (Kd.N_far (p := ⟨gb419, 0, none⟩) (Kd.N_mono HO401.out (fun k_ hk => (⟨hk, hk.2⟩ : _ ∧ k_ ≠ gb419))) (fun _ hk => hk.2) (.slice Ao52 t415.length co52)) (fun _ h_ => h_.1)))) k_ hk_.2.1), (Kd.fresh' (Kd.N_lt (by (with_reducible repeat (first | apply Kd.N_alloc | apply Kd.N_drewN | apply Kd.N_drew)); exact (Kd.N_mono (Kd.N_far (p := ⟨gb419, 0, none⟩) (Kd.N_mono HO406.out (fun k_ hk => (⟨hk, hk.2⟩ : _ ∧ k_ ≠ gb419))) (fun _ hk => hk.2) (.slice Ao52 t415.length co52)) (fun _ h_ => h_.1)))) k_ hk_.2.1), (Kd.fresh' (Kd.N_lt (by (with_reducible repeat (first | apply Kd.N_alloc | apply Kd.N_drewN | apply Kd.N_drew)); exact (Kd.N_mono (Kd.N_far (p := ⟨gb419, 0, none⟩) (Kd.N_mono HO412.out (fun k_ hk => (⟨hk, hk.2⟩ : _ ∧ k_ ≠ gb419))) (fun _ hk => hk.2) (.slice Ao52 t415.length co52)) (fun _ h_ => h_.1)))) k_ hk_.2.1), (Kd.fresh' (Kd.N_lt (by (with_reducible repeat (first | apply Kd.N_alloc | apply Kd.N_drewN | apply Kd.N_drew)); exact (Kd.N_mono (Kd.N_far (p := ⟨gb419, 0, none⟩) (Kd.N_mono HO417.out (fun k_ hk => (⟨hk, hk.2⟩ : _ ∧ k_ ≠ gb419))) (fun _ hk => hk.2) (.slice Ao52 t415.length co52)) (fun _ h_ => h_.1)))) k_ hk_.2.1), (Kd.freshB (g := gb398) (o := .cells #[.slice Ao27 t392.length co27] 26 (0, 0)) (bk2_ BK398.out) k_ hk_.2.1), (Kd.freshB (g := gb403) (o := .cells #[.slice Ao31 t399.length co31] 26 (0, 0)) (bk2_ BK403.out) k_ hk_.2.1), (Kd.freshB (g := gb408) (o := .cells #[.slice Ao37 t404.length co37] 26 (0, 0)) (bk2_ BK408.out) k_ hk_.2.1), (Kd.freshB (g := gb414) (o := .cells #[.slice Ao44 t410.length co44] 26 (0, 0)) (bk2_ BK414.out) k_ hk_.2.1), (Kd.freshB (g := gb419) (o := .cells #[.slice Ao52 t415.length co52] 26 (0, 0)) (by (with_reducible repeat (first | refine blk_drewN ?_ _ | refine blk_drew ?_ | refine blk_alloc ?_ _)); refine blk_put (cs := #[.slice none 0 0]) ?_ 0 _ rfl; exact bk_ BK419.out) k_ hk_.2.1)⟩)) (below_size qz1)); replace HO394 := aM (Kd.N_elder' (by (with_reducible repeat (first | apply Kd.N_alloc | apply Kd.N_drewN | apply Kd.N_drew)); exact (Kd.N_mono (Kd.N_far (p := ⟨gb419, 0, none⟩) (Kd.N_mono HO394.out (fun k_ hk => (⟨hk, hk.2⟩ : _ ∧ k_ ≠ gb419))) (fun _ hk => hk.2) (.slice Ao52 t415.length co52)) (fun _ h_ => h_.1))) (Kd.S_base ho0) hb); replace HO401 := aM (Kd.N_elder' (by (with_reducible repeat (first | apply Kd.N_alloc | apply Kd.N_drewN | apply Kd.N_drew)); exact (Kd.N_mono (Kd.N_far (p := ⟨gb419, 0, none⟩) (Kd.N_mono HO401.out (fun k_ hk => (⟨hk, hk.2⟩ : _ ∧ k_ ≠ gb419))) (fun _ hk => hk.2) (.slice Ao52 t415.length co52)) (fun _ h_ => h_.1))) (Kd.S_base ho0) hb); replace HO406 := aM (Kd.N_elder' (by (with_reducible repeat (first | apply Kd.N_alloc | apply Kd.N_drewN | apply Kd.N_drew)); exact (Kd.N_mono (Kd.N_far (p := ⟨gb419, 0, none⟩) (Kd.N_mono HO406.out (fun k_ hk => (⟨hk, hk.2⟩ : _ ∧ k_ ≠ gb419))) (fun _ hk => hk.2) (.slice Ao52 t415.length co52)) (fun _ h_ => h_.1))) (Kd.S_base ho0) hb); replace HO412 := aM (Kd.N_elder' (by (with_reducible repeat (first | apply Kd.N_alloc | apply Kd.N_drewN | apply Kd.N_drew)); exact (Kd.N_mono (Kd.N_far (p := ⟨gb419, 0, none⟩) (Kd.N_mono HO412.out (fun k_ hk => (⟨hk, hk.2⟩ : _ ∧ k_ ≠ gb419))) (fun _ hk => hk.2) (.slice Ao52 t415.length co52)) (fun _ h_ => h_.1))) (Kd.S_base ho0) hb); replace HO417 := aM (Kd.N_elder' (by (with_reducible repeat (first | apply Kd.N_alloc | apply Kd.N_drewN | apply Kd.N_drew)); exact (Kd.N_mono (Kd.N_far (p := ⟨gb419, 0, none⟩) (Kd.N_mono HO417.out (fun k_ hk => (⟨hk, hk.2⟩ : _ ∧ k_ ≠ gb419))) (fun _ hk => hk.2) (.slice Ao52 t415.length co52)) (fun _ h_ => h_.1))) (Kd.S_base ho0) hb); replace BK398 := aM (blk_below (g := gb398) (o := .cells #[.slice Ao27 t392.length co27] 26 (0, 0)) (bk2_ BK398.out) hb); replace BK403 := aM (blk_below (g := gb403) (o := .cells #[.slice Ao31 t399.length co31] 26 (0, 0)) (bk2_ BK403.out) hb); replace BK408 := aM (blk_below (g := gb408) (o := .cells #[.slice Ao37 t404.length co37] 26 (0, 0)) (bk2_ BK408.out) hb); replace BK414 := aM (blk_below (g := gb414) (o := .cells #[.slice Ao44 t410.length co44] 26 (0, 0)) (bk2_ BK414.out) hb); replace BK419 := aM (blk_below (g := gb419) (o := .cells #[.slice Ao52 t415.length co52] 26 (0, 0)) (by (with_reducible repeat (first | refine blk_drewN ?_ _ | refine blk_drew ?_ | refine blk_alloc ?_ _)); refine blk_put (cs := #[.slice none 0 0]) ?_ 0 _ rfl; exact bk_ BK419.out) hb); replace HB := bS_ hb; (try clear hb); (try clear hb2); (try clear hk); (try clear hi); (try clear ho0)) | ((with_reducible refine gate_dst (N := 15) rfl ?_); refine bx_ 15 #[.slice none 0 0] 26 ?_; intro gb424 hg w60 hbox hb; replace HO394 := aM (Kd.N_below (Kd.N_elderB qz8 gb424 (Nat.le_of_eq hg.symm)) hb); replace HO401 := aM (Kd.N_below (Kd.N_elderB qz10 gb424 (Nat.le_of_eq hg.symm)) hb); replace HO406 := aM (Kd.N_below (Kd.N_elderB qz14 gb424 (Nat.le_of_eq hg.symm)) hb); replace HO412 := aM (Kd.N_below (Kd.N_elderB qz19 gb424 (Nat.le_of_eq hg.symm)) hb); replace HO417 := aM (Kd.N_below (Kd.N_elderB qz20 gb424 (Nat.le_of_eq hg.symm)) hb); replace HO422 := aM (Kd.N_below (Kd.N_elderB qz22 gb424 (Nat.le_of_eq hg.symm)) hb); have BK424 := aM (hbox); have GW424 := aM (bz_ w hg qz1); have GE424 := GW424; replace HB := bS_ hb; obtain ⟨NB398_424, NB424_398⟩ := nb_ hg (bk_ BK398.out); replace BK398 := bB_ BK398 hb; obtain ⟨NB403_424, NB424_403⟩ := nb_ hg (bk_ BK403.out); replace BK403 := bB_ BK403 hb; obtain ⟨NB408_424, NB424_408⟩ := nb_ hg (bk_ BK408.out); replace BK408 := bB_ BK408 hb; obtain ⟨NB414_424, NB424_414⟩ := nb_ hg (bk_ BK414.out); replace BK414 := bB_ BK414 hb; obtain ⟨NB419_424, NB424_419⟩ := nb_ hg (bk_ BK419.out); replace BK419 := bB_ BK419 hb; clear hb hbox hg; obtain ⟨Ao61, co61, eo61⟩ := Kd.N_slice HO422.out; subst eo61; have hnb62 := NB424_398.out; have hnc62 := NB398_424.out; have hnb63 := NB424_403.out; have hnc63 := NB403_424.out; have hnb64 := NB424_408.out; have hnc64 := NB408_424.out; have hnb65 := NB424_414.out; have hnc65 := NB414_424.out; have hnb66 := NB424_419.out; have hnc66 := NB419_424.out; obtain ⟨hcz67_0, hfz67_0⟩ := bf_ BK424.out) | ((with_reducible refine gate_callee (f := 27) rfl ?_); refine goesL_ (some 79) rfl rfl Try.func27 (by kernel_rfl) rfl #[.agg #[.slice Ao61 t420.length co61], .int .i64 t395, .int .i64 t396, .int .i64 t397] rfl qz4 ?_; (with_reducible refine (impl_TakeOut.calls k _ _ t420 t395 t396 t397 t425 t428 _ ?side1 ?side2 A12.out).mono ?_); (case side1 => refine (Kd.N_reads' (e := 79) (base := w.heap.size) (ok := fun k_ => ((some k_ ≠ (.slice Ao27 t392.length co27 : Value).ownBlock ∧ (some k_ ≠ (.slice Ao31 t399.length co31 : Value).ownBlock ∧ (some k_ ≠ (.slice Ao37 t404.length co37 : Value).ownBlock ∧ (some k_ ≠ (.slice Ao44 t410.length co44 : Value).ownBlock ∧ (some k_ ≠ (.slice Ao52 t415.length co52 : Value).ownBlock ∧ (k_ ≠ gb398 ∧ (k_ ≠ gb403 ∧ (k_ ≠ gb408 ∧ (k_ ≠ gb414 ∧ k_ ≠ gb419))))))))) ∧ k_ ≠ gb424)) (n := t420.length) (c := co61) ?_).2.2; exact (by (with_reducible repeat (first | apply Kd.N_alloc | apply Kd.N_drewN | apply Kd.N_drew)); exact (Kd.N_mono (Kd.N_far (p := ⟨gb424, 0, none⟩) (Kd.N_mono HO422.out (fun k_ hk => (⟨hk, hk.2⟩ : _ ∧ k_ ≠ gb424))) (fun _ hk => hk.2) (.slice Ao61 t420.length co61)) (fun _ h_ => h_.1)))); (case side2 => exact (Kd.N_reads' HO422.out).2.1); rintro e w68 ⟨v426, rfl, ho0, hb⟩; refine ⟨_, rfl, ?_⟩; have HO427 := aM (Kd.N_lower (Kd.N_mono (ok' := fun k_ => some k_ ≠ (.slice Ao27 t392.length co27 : Value).ownBlock ∧ some k_ ≠ (.slice Ao31 t399.length co31 : Value).ownBlock ∧ some k_ ≠ (.slice Ao37 t404.length co37 : Value).ownBlock ∧ some k_ ≠ (.slice Ao44 t410.length co44 : Value).ownBlock ∧ some k_ ≠ (.slice Ao52 t415.length co52 : Value).ownBlock ∧ some k_ ≠ (.slice Ao61 t420.length co61 : Value).ownBlock ∧ k_ ≠ gb398 ∧ k_ ≠ gb403 ∧ k_ ≠ gb408 ∧ k_ ≠ gb414 ∧ k_ ≠ gb419 ∧ k_ ≠ gb424) (Kd.S_N (Kd.S_bound ho0)) (fun k_ hk_ => ⟨(Kd.fresh' (Kd.N_lt (by (with_reducible repeat (first | apply Kd.N_alloc | apply Kd.N_drewN | apply Kd.N_drew)); exact (Kd.N_mono (Kd.N_far (p := ⟨gb424, 0, none⟩) (Kd.N_mono HO394.out (fun k_ hk => (⟨hk, hk.2⟩ : _ ∧ k_ ≠ gb424))) (fun _ hk => hk.2) (.slice Ao61 t420.length co61)) (fun _ h_ => h_.1)))) k_ hk_.2.1), (Kd.fresh' (Kd.N_lt (by (with_reducible repeat (first | apply Kd.N_alloc | apply Kd.N_drewN | apply Kd.N_drew)); exact (Kd.N_mono (Kd.N_far (p := ⟨gb424, 0, none⟩) (Kd.N_mono HO401.out (fun k_ hk => (⟨hk, hk.2⟩ : _ ∧ k_ ≠ gb424))) (fun _ hk => hk.2) (.slice Ao61 t420.length co61)) (fun _ h_ => h_.1)))) k_ hk_.2.1), (Kd.fresh' (Kd.N_lt (by (with_reducible repeat (first | apply Kd.N_alloc | apply Kd.N_drewN | apply Kd.N_drew)); exact (Kd.N_mono (Kd.N_far (p := ⟨gb424, 0, none⟩) (Kd.N_mono HO406.out (fun k_ hk => (⟨hk, hk.2⟩ : _ ∧ k_ ≠ gb424))) (fun _ hk => hk.2) (.slice Ao61 t420.length co61)) (fun _ h_ => h_.1)))) k_ hk_.2.1), (Kd.fresh' (Kd.N_lt (by (with_reducible repeat (first | apply Kd.N_alloc | apply Kd.N_drewN | apply Kd.N_drew)); exact (Kd.N_mono (Kd.N_far (p := ⟨gb424, 0, none⟩) (Kd.N_mono HO412.out (fun k_ hk => (⟨hk, hk.2⟩ : _ ∧ k_ ≠ gb424))) (fun _ hk => hk.2) (.slice Ao61 t420.length co61)) (fun _ h_ => h_.1)))) k_ hk_.2.1), (Kd.fresh' (Kd.N_lt (by (with_reducible repeat (first | apply Kd.N_alloc | apply Kd.N_drewN | apply Kd.N_drew)); exact (Kd.N_mono (Kd.N_far (p := ⟨gb424, 0, none⟩) (Kd.N_mono HO417.out (fun k_ hk => (⟨hk, hk.2⟩ : _ ∧ k_ ≠ gb424))) (fun _ hk => hk.2) (.slice Ao61 t420.length co61)) (fun _ h_ => h_.1)))) k_ hk_.2.1), (Kd.fresh' (Kd.N_lt (by (with_reducible repeat (first | apply Kd.N_alloc | apply Kd.N_drewN | apply Kd.N_drew)); exact (Kd.N_mono (Kd.N_far (p := ⟨gb424, 0, none⟩) (Kd.N_mono HO422.out (fun k_ hk => (⟨hk, hk.2⟩ : _ ∧ k_ ≠ gb424))) (fun _ hk => hk.2) (.slice Ao61 t420.length co61)) (fun _ h_ => h_.1)))) k_ hk_.2.1), (Kd.freshB (g := gb398) (o := .cells #[.slice Ao27 t392.length co27] 26 (0, 0)) (bk2_ BK398.out) k_ hk_.2.1), (Kd.freshB (g := gb403) (o := .cells #[.slice Ao31 t399.length co31] 26 (0, 0)) (bk2_ BK403.out) k_ hk_.2.1), (Kd.freshB (g := gb408) (o := .cells #[.slice Ao37 t404.length co37] 26 (0, 0)) (bk2_ BK408.out) k_ hk_.2.1), (Kd.freshB (g := gb414) (o := .cells #[.slice Ao44 t410.length co44] 26 (0, 0)) (bk2_ BK414.out) k_ hk_.2.1), (Kd.freshB (g := gb419) (o := .cells #[.slice Ao52 t415.length co52] 26 (0, 0)) (bk2_ BK419.out) k_ hk_.2.1), (Kd.freshB (g := gb424) (o := .cells #[.slice Ao61 t420.length co61] 26 (0, 0)) (by (with_reducible repeat (first | refine blk_drewN ?_ _ | refine blk_drew ?_ | refine blk_alloc ?_ _)); refine blk_put (cs := #[.slice none 0 0]) ?_ 0 _ rfl; exact bk_ BK424.out) k_ hk_.2.1)⟩)) (below_size qz1)); replace HO394 := aM (Kd.N_elder' (by (with_reducible repeat (first | apply Kd.N_alloc | apply Kd.N_drewN | apply Kd.N_drew)); exact (Kd.N_mono (Kd.N_far (p := ⟨gb424, 0, none⟩) (Kd.N_mono HO394.out (fun k_ hk => (⟨hk, hk.2⟩ : _ ∧ k_ ≠ gb424))) (fun _ hk => hk.2) (.slice Ao61 t420.length co61)) (fun _ h_ => h_.1))) (Kd.S_base ho0) hb); replace HO401 := aM (Kd.N_elder' (by (with_reducible repeat (first | apply Kd.N_alloc | apply Kd.N_drewN | apply Kd.N_drew)); exact (Kd.N_mono (Kd.N_far (p := ⟨gb424, 0, none⟩) (Kd.N_mono HO401.out (fun k_ hk => (⟨hk, hk.2⟩ : _ ∧ k_ ≠ gb424))) (fun _ hk => hk.2) (.slice Ao61 t420.length co61)) (fun _ h_ => h_.1))) (Kd.S_base ho0) hb); replace HO406 := aM (Kd.N_elder' (by (with_reducible repeat (first | apply Kd.N_alloc | apply Kd.N_drewN | apply Kd.N_drew)); exact (Kd.N_mono (Kd.N_far (p := ⟨gb424, 0, none⟩) (Kd.N_mono HO406.out (fun k_ hk => (⟨hk, hk.2⟩ : _ ∧ k_ ≠ gb424))) (fun _ hk => hk.2) (.slice Ao61 t420.length co61)) (fun _ h_ => h_.1))) (Kd.S_base ho0) hb); replace HO412 := aM (Kd.N_elder' (by (with_reducible repeat (first | apply Kd.N_alloc | apply Kd.N_drewN | apply Kd.N_drew)); exact (Kd.N_mono (Kd.N_far (p := ⟨gb424, 0, none⟩) (Kd.N_mono HO412.out (fun k_ hk => (⟨hk, hk.2⟩ : _ ∧ k_ ≠ gb424))) (fun _ hk => hk.2) (.slice Ao61 t420.length co61)) (fun _ h_ => h_.1))) (Kd.S_base ho0) hb); replace HO417 := aM (Kd.N_elder' (by (with_reducible repeat (first | apply Kd.N_alloc | apply Kd.N_drewN | apply Kd.N_drew)); exact (Kd.N_mono (Kd.N_far (p := ⟨gb424, 0, none⟩) (Kd.N_mono HO417.out (fun k_ hk => (⟨hk, hk.2⟩ : _ ∧ k_ ≠ gb424))) (fun _ hk => hk.2) (.slice Ao61 t420.length co61)) (fun _ h_ => h_.1))) (Kd.S_base ho0) hb); replace HO422 := aM (Kd.N_elder' (by (with_reducible repeat (first | apply Kd.N_alloc | apply Kd.N_drewN | apply Kd.N_drew)); exact (Kd.N_mono (Kd.N_far (p := ⟨gb424, 0, none⟩) (Kd.N_mono HO422.out (fun k_ hk => (⟨hk, hk.2⟩ : _ ∧ k_ ≠ gb424))) (fun _ hk => hk.2) (.slice Ao61 t420.length co61)) (fun _ h_ => h_.1))) (Kd.S_base ho0) hb); replace BK398 := aM (blk_below (g := gb398) (o := .cells #[.slice Ao27 t392.length co27] 26 (0, 0)) (bk2_ BK398.out) hb); replace BK403 := aM (blk_below (g := gb403) (o := .cells #[.slice Ao31 t399.length co31] 26 (0, 0)) (bk2_ BK403.out) hb); replace BK408 := aM (blk_below (g := gb408) (o := .cells #[.slice Ao37 t404.length co37] 26 (0, 0)) (bk2_ BK408.out) hb); replace BK414 := aM (blk_below (g := gb414) (o := .cells #[.slice Ao44 t410.length co44] 26 (0, 0)) (bk2_ BK414.out) hb); replace BK419 := aM (blk_below (g := gb419) (o := .cells #[.slice Ao52 t415.length co52] 26 (0, 0)) (bk2_ BK419.out) hb); replace BK424 := aM (blk_below (g := gb424) (o := .cells #[.slice Ao61 t420.length co61] 26 (0, 0)) (by (with_reducible repeat (first | refine blk_drewN ?_ _ | refine blk_drew ?_ | refine blk_alloc ?_ _)); refine blk_put (cs := #[.slice none 0 0]) ?_ 0 _ rfl; exact bk_ BK424.out) hb); replace HB := bS_ hb; (try clear hb); (try clear hb2); (try clear hk); (try clear hi); (try clear ho0)) | ((with_reducible refine gate_dst (N := 17) rfl ?_); refine bx_ 17 #[.slice none 0 0] 26 ?_; intro gb429 hg w69 hbox hb; replace HO394 := aM (Kd.N_below (Kd.N_elderB qz8 gb429 (Nat.le_of_eq hg.symm)) hb); replace HO401 := aM (Kd.N_below (Kd.N_elderB qz10 gb429 (Nat.le_of_eq hg.symm)) hb); replace HO406 := aM (Kd.N_below (Kd.N_elderB qz14 gb429 (Nat.le_of_eq hg.symm)) hb); replace HO412 := aM (Kd.N_below (Kd.N_elderB qz19 gb429 (Nat.le_of_eq hg.symm)) hb); replace HO417 := aM (Kd.N_below (Kd.N_elderB qz20 gb429 (Nat.le_of_eq hg.symm)) hb); replace HO422 := aM (Kd.N_below (Kd.N_elderB qz22 gb429 (Nat.le_of_eq hg.symm)) hb); replace HO427 := aM (Kd.N_below (Kd.N_elderB qz23 gb429 (Nat.le_of_eq hg.symm)) hb); have BK429 := aM (hbox); have GW429 := aM (bz_ w hg qz1); have GE429 := GW429; replace HB := bS_ hb; obtain ⟨NB398_429, NB429_398⟩ := nb_ hg (bk_ BK398.out); replace BK398 := bB_ BK398 hb; obtain ⟨NB403_429, NB429_403⟩ := nb_ hg (bk_ BK403.out); replace BK403 := bB_ BK403 hb; obtain ⟨NB408_429, NB429_408⟩ := nb_ hg (bk_ BK408.out); replace BK408 := bB_ BK408 hb; obtain ⟨NB414_429, NB429_414⟩ := nb_ hg (bk_ BK414.out); replace BK414 := bB_ BK414 hb; obtain ⟨NB419_429, NB429_419⟩ := nb_ hg (bk_ BK419.out); replace BK419 := bB_ BK419 hb; obtain ⟨NB424_429, NB429_424⟩ := nb_ hg (bk_ BK424.out); replace BK424 := bB_ BK424 hb; clear hb hbox hg; obtain ⟨Ao70, co70, eo70⟩ := Kd.N_slice HO427.out; subst eo70; have hnb71 := NB429_398.out; have hnc71 := NB398_429.out; have hnb72 := NB429_403.out; have hnc72 := NB403_429.out; have hnb73 := NB429_408.out; have hnc73 := NB408_429.out; have hnb74 := NB429_414.out; have hnc74 := NB414_429.out; have hnb75 := NB429_419.out; have hnc75 := NB419_429.out; have hnb76 := NB429_424.out; have hnc76 := NB424_429.out; obtain ⟨hcz77_0, hfz77_0⟩ := bf_ BK429.out))
 generalize hq_ : (w69.setCell ⟨gb429, 0, none⟩ (.slice Ao70 t425.length co70)) = w78
 replace HO394 : Aside0 (Kd.N k79 79 w78 w.heap.size (fun k_ => some k_ ≠ (.slice Ao31 t399.length co31 : Value).ownBlock ∧ some k_ ≠ (.slice Ao37 t404.length co37 : Value).ownBlock ∧ some k_ ≠ (.slice Ao44 t410.length co44 : Value).ownBlock ∧ some k_ ≠ (.slice Ao52 t415.length co52 : Value).ownBlock ∧ some k_ ≠ (.slice Ao61 t420.length co61 : Value).ownBlock ∧ some k_ ≠ (.slice Ao70 t425.length co70 : Value).ownBlock ∧ k_ ≠ gb398 ∧ k_ ≠ gb403 ∧ k_ ≠ gb408 ∧ k_ ≠ gb414 ∧ k_ ≠ gb419 ∧ k_ ≠ gb424 ∧ k_ ≠ gb429) (.slice Ao27 t392.length co27) t392) := ⟨by rw [← hq_]; exact (by (with_reducible repeat (first | apply Kd.N_alloc | apply Kd.N_drewN | apply Kd.N_drew)); exact Kd.N_mono (Kd.N_far (p := ⟨gb429, 0, none⟩) (Kd.N_mono HO394.out (fun k_ hk => (⟨hk, hk.2⟩ : _ ∧ k_ ≠ gb429))) (fun _ hk => hk.2) (.slice Ao70 t425.length co70)) (fun _ hk => ⟨hk.1.1.1.1.1.1.1.1.1.1.1.1.2, ⟨hk.1.1.1.1.1.1.1.1.1.1.2, ⟨hk.1.1.1.1.1.1.1.1.2, ⟨hk.1.1.1.1.1.1.2, ⟨hk.1.1.1.1.2, ⟨hk.1.1.2, ⟨hk.1.1.1.1.1.1.1.1.1.1.1.1.1.2, ⟨hk.1.1.1.1.1.1.1.1.1.1.1.2, ⟨hk.1.1.1.1.1.1.1.1.1.2, ⟨hk.1.1.1.1.1.1.1.2, ⟨hk.1.1.1.1.1.2, ⟨hk.1.1.1.2, hk.1.2⟩⟩⟩⟩⟩⟩⟩⟩⟩⟩⟩⟩))⟩
 replace HO401 : Aside0 (Kd.N k79 79 w78 w.heap.size (fun k_ => some k_ ≠ (.slice Ao27 t392.length co27 : Value).ownBlock ∧ some k_ ≠ (.slice Ao37 t404.length co37 : Value).ownBlock ∧ some k_ ≠ (.slice Ao44 t410.length co44 : Value).ownBlock ∧ some k_ ≠ (.slice Ao52 t415.length co52 : Value).ownBlock ∧ some k_ ≠ (.slice Ao61 t420.length co61 : Value).ownBlock ∧ some k_ ≠ (.slice Ao70 t425.length co70 : Value).ownBlock ∧ k_ ≠ gb398 ∧ k_ ≠ gb403 ∧ k_ ≠ gb408 ∧ k_ ≠ gb414 ∧ k_ ≠ gb419 ∧ k_ ≠ gb424 ∧ k_ ≠ gb429) (.slice Ao31 t399.length co31) t399) := ⟨by rw [← hq_]; exact (by (with_reducible repeat (first | apply Kd.N_alloc | apply Kd.N_drewN | apply Kd.N_drew)); exact Kd.N_mono (Kd.N_far (p := ⟨gb429, 0, none⟩) (Kd.N_mono HO401.out (fun k_ hk => (⟨hk, hk.2⟩ : _ ∧ k_ ≠ gb429))) (fun _ hk => hk.2) (.slice Ao70 t425.length co70)) (fun _ hk => ⟨hk.1.1.1.1.1.1.1.1.1.1.1.1.1, ⟨hk.1.1.1.1.1.1.1.1.1.1.2, ⟨hk.1.1.1.1.1.1.1.1.2, ⟨hk.1.1.1.1.1.1.2, ⟨hk.1.1.1.1.2, ⟨hk.1.1.2, ⟨hk.1.1.1.1.1.1.1.1.1.1.1.1.2, ⟨hk.1.1.1.1.1.1.1.1.1.1.1.2, ⟨hk.1.1.1.1.1.1.1.1.1.2, ⟨hk.1.1.1.1.1.1.1.2, ⟨hk.1.1.1.1.1.2, ⟨hk.1.1.1.2, hk.1.2⟩⟩⟩⟩⟩⟩⟩⟩⟩⟩⟩⟩))⟩
 replace HO406 : Aside0 (Kd.N k79 79 w78 w.heap.size (fun k_ => some k_ ≠ (.slice Ao27 t392.length co27 : Value).ownBlock ∧ some k_ ≠ (.slice Ao31 t399.length co31 : Value).ownBlock ∧ some k_ ≠ (.slice Ao44 t410.length co44 : Value).ownBlock ∧ some k_ ≠ (.slice Ao52 t415.length co52 : Value).ownBlock ∧ some k_ ≠ (.slice Ao61 t420.length co61 : Value).ownBlock ∧ some k_ ≠ (.slice Ao70 t425.length co70 : Value).ownBlock ∧ k_ ≠ gb398 ∧ k_ ≠ gb403 ∧ k_ ≠ gb408 ∧ k_ ≠ gb414 ∧ k_ ≠ gb419 ∧ k_ ≠ gb424 ∧ k_ ≠ gb429) (.slice Ao37 t404.length co37) t404) := ⟨by rw [← hq_]; exact (by (with_reducible repeat (first | apply Kd.N_alloc | apply Kd.N_drewN | apply Kd.N_drew)); exact Kd.N_mono (Kd.N_far (p := ⟨gb429, 0, none⟩) (Kd.N_mono HO406.out (fun k_ hk => (⟨hk, hk.2⟩ : _ ∧ k_ ≠ gb429))) (fun _ hk => hk.2) (.slice Ao70 t425.length co70)) (fun _ hk => ⟨hk.1.1.1.1.1.1.1.1.1.1.1, ⟨hk.1.1.1.1.1.1.1.1.1.1.2.1, ⟨hk.1.1.1.1.1.1.1.1.2, ⟨hk.1.1.1.1.1.1.2, ⟨hk.1.1.1.1.2, ⟨hk.1.1.2, ⟨hk.1.1.1.1.1.1.1.1.1.1.2.2.1, ⟨hk.1.1.1.1.1.1.1.1.1.1.2.2.2, ⟨hk.1.1.1.1.1.1.1.1.1.2, ⟨hk.1.1.1.1.1.1.1.2, ⟨hk.1.1.1.1.1.2, ⟨hk.1.1.1.2, hk.1.2⟩⟩⟩⟩⟩⟩⟩⟩⟩⟩⟩⟩))⟩
 replace HO412 : Aside0 (Kd.N k79 79 w78 w.heap.size (fun k_ => some k_ ≠ (.slice Ao27 t392.length co27 : Value).ownBlock ∧ some k_ ≠ (.slice Ao31 t399.length co31 : Value).ownBlock ∧ some k_ ≠ (.slice Ao37 t404.length co37 : Value).ownBlock ∧ some k_ ≠ (.slice Ao52 t415.length co52 : Value).ownBlock ∧ some k_ ≠ (.slice Ao61 t420.length co61 : Value).ownBlock ∧ some k_ ≠ (.slice Ao70 t425.length co70 : Value).ownBlock ∧ k_ ≠ gb398 ∧ k_ ≠ gb403 ∧ k_ ≠ gb408 ∧ k_ ≠ gb414 ∧ k_ ≠ gb419 ∧ k_ ≠ gb424 ∧ k_ ≠ gb429) (.slice Ao44 t410.length co44) t410) := ⟨by rw [← hq_]; exact (by (with_reducible repeat (first | apply Kd.N_alloc | apply Kd.N_drewN | apply Kd.N_drew)); exact Kd.N_mono (Kd.N_far (p := ⟨gb429, 0, none⟩) (Kd.N_mono HO412.out (fun k_ hk => (⟨hk, hk.2⟩ : _ ∧ k_ ≠ gb429))) (fun _ hk => hk.2) (.slice Ao70 t425.length co70)) (fun _ hk => ⟨hk.1.1.1.1.1.1.1.1.1, ⟨hk.1.1.1.1.1.1.1.1.2.1, ⟨hk.1.1.1.1.1.1.1.1.2.2.1, ⟨hk.1.1.1.1.1.1.2, ⟨hk.1.1.1.1.2, ⟨hk.1.1.2, ⟨hk.1.1.1.1.1.1.1.1.2.2.2.1, ⟨hk.1.1.1.1.1.1.1.1.2.2.2.2.1, ⟨hk.1.1.1.1.1.1.1.1.2.2.2.2.2, ⟨hk.1.1.1.1.1.1.1.2, ⟨hk.1.1.1.1.1.2, ⟨hk.1.1.1.2, hk.1.2⟩⟩⟩⟩⟩⟩⟩⟩⟩⟩⟩⟩))⟩
 replace HO417 : Aside0 (Kd.N k79 79 w78 w.heap.size (fun k_ => some k_ ≠ (.slice Ao27 t392.length co27 : Value).ownBlock ∧ some k_ ≠ (.slice Ao31 t399.length co31 : Value).ownBlock ∧ some k_ ≠ (.slice Ao37 t404.length co37 : Value).ownBlock ∧ some k_ ≠ (.slice Ao44 t410.length co44 : Value).ownBlock ∧ some k_ ≠ (.slice Ao61 t420.length co61 : Value).ownBlock ∧ some k_ ≠ (.slice Ao70 t425.length co70 : Value).ownBlock ∧ k_ ≠ gb398 ∧ k_ ≠ gb403 ∧ k_ ≠ gb408 ∧ k_ ≠ gb414 ∧ k_ ≠ gb419 ∧ k_ ≠ gb424 ∧ k_ ≠ gb429) (.slice Ao52 t415.length co52) t415) := ⟨by rw [← hq_]; exact (by (with_reducible repeat (first | apply Kd.N_alloc | apply Kd.N_drewN | apply Kd.N_drew)); exact Kd.N_mono (Kd.N_far (p := ⟨gb429, 0, none⟩) (Kd.N_mono HO417.out (fun k_ hk => (⟨hk, hk.2⟩ : _ ∧ k_ ≠ gb429))) (fun _ hk => hk.2) (.slice Ao70 t425.length co70)) (fun _ hk => ⟨hk.1.1.1.1.1.1.1, ⟨hk.1.1.1.1.1.1.2.1, ⟨hk.1.1.1.1.1.1.2.2.1, ⟨hk.1.1.1.1.1.1.2.2.2.1, ⟨hk.1.1.1.1.2, ⟨hk.1.1.2, ⟨hk.1.1.1.1.1.1.2.2.2.2.1, ⟨hk.1.1.1.1.1.1.2.2.2.2.2.1, ⟨hk.1.1.1.1.1.1.2.2.2.2.2.2.1, ⟨hk.1.1.1.1.1.1.2.2.2.2.2.2.2, ⟨hk.1.1.1.1.1.2, ⟨hk.1.1.1.2, hk.1.2⟩⟩⟩⟩⟩⟩⟩⟩⟩⟩⟩⟩))⟩
 replace HO422 : Aside0 (Kd.N k79 79 w78 w.heap.size (fun k_ => some k_ ≠ (.slice Ao27 t392.length co27 : Value).ownBlock ∧ some k_ ≠ (.slice Ao31 t399.length co31 : Value).ownBlock ∧ some k_ ≠ (.slice Ao37 t404.length co37 : Value).ownBlock ∧ some k_ ≠ (.slice Ao44 t410.length co44 : Value).ownBlock ∧ some k_ ≠ (.slice Ao52 t415.length co52 : Value).ownBlock ∧ some k_ ≠ (.slice Ao70 t425.length co70 : Value).ownBlock ∧ k_ ≠ gb398 ∧ k_ ≠ gb403 ∧ k_ ≠ gb408 ∧ k_ ≠ gb414 ∧ k_ ≠ gb419 ∧ k_ ≠ gb424 ∧ k_ ≠ gb429) (.slice Ao61 t420.length co61) t420) := ⟨by rw [← hq_]; exact (by (with_reducible repeat (first | apply Kd.N_alloc | apply Kd.N_drewN | apply Kd.N_drew)); exact Kd.N_mono (Kd.N_far (p := ⟨gb429, 0, none⟩) (Kd.N_mono HO422.out (fun k_ hk => (⟨hk, hk.2⟩ : _ ∧ k_ ≠ gb429))) (fun _ hk => hk.2) (.slice Ao70 t425.length co70)) (fun _ hk => ⟨hk.1.1.1.1.1, ⟨hk.1.1.1.1.2.1, ⟨hk.1.1.1.1.2.2.1, ⟨hk.1.1.1.1.2.2.2.1, ⟨hk.1.1.1.1.2.2.2.2.1, ⟨hk.1.1.2, ⟨hk.1.1.1.1.2.2.2.2.2.1, ⟨hk.1.1.1.1.2.2.2.2.2.2.1, ⟨hk.1.1.1.1.2.2.2.2.2.2.2.1, ⟨hk.1.1.1.1.2.2.2.2.2.2.2.2.1, ⟨hk.1.1.1.1.2.2.2.2.2.2.2.2.2, ⟨hk.1.1.1.2, hk.1.2⟩⟩⟩⟩⟩⟩⟩⟩⟩⟩⟩⟩))⟩
 replace HO427 : Aside0 (Kd.N k79 79 w78 w.heap.size (fun k_ => some k_ ≠ (.slice Ao27 t392.length co27 : Value).ownBlock ∧ some k_ ≠ (.slice Ao31 t399.length co31 : Value).ownBlock ∧ some k_ ≠ (.slice Ao37 t404.length co37 : Value).ownBlock ∧ some k_ ≠ (.slice Ao44 t410.length co44 : Value).ownBlock ∧ some k_ ≠ (.slice Ao52 t415.length co52 : Value).ownBlock ∧ some k_ ≠ (.slice Ao61 t420.length co61 : Value).ownBlock ∧ k_ ≠ gb398 ∧ k_ ≠ gb403 ∧ k_ ≠ gb408 ∧ k_ ≠ gb414 ∧ k_ ≠ gb419 ∧ k_ ≠ gb424 ∧ k_ ≠ gb429) (.slice Ao70 t425.length co70) t425) := ⟨by rw [← hq_]; exact (by (with_reducible repeat (first | apply Kd.N_alloc | apply Kd.N_drewN | apply Kd.N_drew)); exact Kd.N_mono (Kd.N_far (p := ⟨gb429, 0, none⟩) (Kd.N_mono HO427.out (fun k_ hk => (⟨hk, hk.2⟩ : _ ∧ k_ ≠ gb429))) (fun _ hk => hk.2) (.slice Ao70 t425.length co70)) (fun _ hk => ⟨hk.1.1.1, ⟨hk.1.1.2.1, ⟨hk.1.1.2.2.1, ⟨hk.1.1.2.2.2.1, ⟨hk.1.1.2.2.2.2.1, ⟨hk.1.1.2.2.2.2.2.1, ⟨hk.1.1.2.2.2.2.2.2.1, ⟨hk.1.1.2.2.2.2.2.2.2.1, ⟨hk.1.1.2.2.2.2.2.2.2.2.1, ⟨hk.1.1.2.2.2.2.2.2.2.2.2.1, ⟨hk.1.1.2.2.2.2.2.2.2.2.2.2.1, ⟨hk.1.1.2.2.2.2.2.2.2.2.2.2.2, hk.1.2⟩⟩⟩⟩⟩⟩⟩⟩⟩⟩⟩⟩))⟩
 replace BK398 : Aside0 (w78.heap[gb398]? = some (.cells #[.slice Ao27 t392.length co27] 26 (0, 0))) := ⟨by rw [← hq_]; exact (bk2_ BK398.out)⟩
 replace BK403 : Aside0 (w78.heap[gb403]? = some (.cells #[.slice Ao31 t399.length co31] 26 (0, 0))) := ⟨by rw [← hq_]; exact (bk2_ BK403.out)⟩
 replace BK408 : Aside0 (w78.heap[gb408]? = some (.cells #[.slice Ao37 t404.length co37] 26 (0, 0))) := ⟨by rw [← hq_]; exact (bk2_ BK408.out)⟩
 replace BK414 : Aside0 (w78.heap[gb414]? = some (.cells #[.slice Ao44 t410.length co44] 26 (0, 0))) := ⟨by rw [← hq_]; exact (bk2_ BK414.out)⟩
 replace BK419 : Aside0 (w78.heap[gb419]? = some (.cells #[.slice Ao52 t415.length co52] 26 (0, 0))) := ⟨by rw [← hq_]; exact (bk2_ BK419.out)⟩
 replace BK424 : Aside0 (w78.heap[gb424]? = some (.cells #[.slice Ao61 t420.length co61] 26 (0, 0))) := ⟨by rw [← hq_]; exact (bk2_ BK424.out)⟩
 replace BK429 : Aside0 (w78.heap[gb429]? = some (.cells #[.slice Ao70 t425.length co70] 26 (0, 0))) := ⟨by rw [← hq_]; exact (by (with_reducible repeat (first | refine blk_drewN ?_ _ | refine blk_drew ?_ | refine blk_alloc ?_ _)); refine blk_put (cs := #[.slice none 0 0]) ?_ 0 _ rfl; exact bk_ BK429.out)⟩
 replace HB : Aside0 (Below w.heap.size w w78) := ⟨by rw [← hq_]; exact qz1⟩
 clear hq_
 replace HO394 := aM (Kd.N_drew HO394.out)
 replace HO401 := aM (Kd.N_drew HO401.out)
 replace HO406 := aM (Kd.N_drew HO406.out)
 replace HO412 := aM (Kd.N_drew HO412.out)
 replace HO417 := aM (Kd.N_drew HO417.out)
 replace HO422 := aM (Kd.N_drew HO422.out)
 replace HO427 := aM (Kd.N_drew HO427.out)
 replace BK398 := aM (blk_drew BK398.out)
 replace BK403 := aM (blk_drew BK403.out)
 replace BK408 := aM (blk_drew BK408.out)
 replace BK414 := aM (blk_drew BK414.out)
 replace BK419 := aM (blk_drew BK419.out)
 replace BK424 := aM (blk_drew BK424.out)
 replace BK429 := aM (blk_drew BK429.out)
 replace HB := aM (below_drew1 HB.out)
 refine start_ (n := 43) (S := fun w' => w'.cell? ⟨gb403, 0, none⟩ = some (.slice Ao31 t399.length co31) ∧ w'.cell? ⟨gb398, 0, none⟩ = some (.slice Ao27 t392.length co27) ∧ w'.cell? ⟨gb429, 0, none⟩ = some (.slice Ao70 t425.length co70)) (ds := []) #[false, false, false, false, false, false, false, false, false, false, false, false, false, false, false, false, false, false, false, false, false, false, false, false, false, false, false, false, false, false, false, false, false, false, false, false, false, false, false, false, false, false, false] (by kernel_rfl) rfl rfl ⟨(blk_cell BK403.out 0).trans rfl, (blk_cell BK398.out 0).trans rfl, (blk_cell BK429.out 0).trans rfl⟩ (fun hHeld => ?_); refine with_tabW laws_FnTaken.tab14 laws_FnTaken.bits14 (fun HT_ HW_ => ?_)
 generalize w78.drew = w79 at HO394 HO401 HO406 HO412 HO417 HO422 HO427 BK398 BK403 BK408 BK414 BK419 BK424 BK429 HB hHeld ⊢
 refine pI_ 0 82 (bqz 43 1) ?_
 refine jI_ 1 83 ?_
 refine jI_ 2 84 ?_
 refine jI_ 3 85 ?_
 refine jI_ 5 87 ?_
 refine jI_ 8 90 ?_
 refine jI_ 10 92 ?_
 refine sI3_ 4 86 ?_
 refine sI3_ 7 89 ?_
 refine one_ (i := 6) (N := some 88) (bqz 43 1535) rfl rfl qzc (by decide) (fun K hK => ?_)
 refine goes_ Try.func22 (by kernel_rfl) rfl #[.agg #[.slice Ao31 t399.length co31], .int .i64 t396] (by rfl) rfl rfl qz4 ?_
 with_reducible refine (impl_Free.calls k _ _ t399 t396 t430 _ ?side1 ?side2 A14.out).mono ?_
 (case side1 => exact qz34)
 (case side2 => exact (Kd.N_reads' HO401.out).2.1)
 rintro e w80 ⟨rfl, hb⟩
 refine ⟨_, rfl, ?_⟩
 replace HO394 := aM (Kd.N_below qz8 hb)
 replace HO401 := aM (Kd.N_below qz10 hb)
 replace HO406 := aM (Kd.N_below qz14 hb)
 replace HO412 := aM (Kd.N_below qz19 hb)
 replace HO417 := aM (Kd.N_below qz20 hb)
 replace HO422 := aM (Kd.N_below qz22 hb)
 replace HO427 := aM (Kd.N_below qz23 hb)
 replace BK398 := bB_ BK398 hb
 replace BK403 := bB_ BK403 hb
 replace BK408 := bB_ BK408 hb
 replace BK414 := bB_ BK414 hb
 replace BK419 := bB_ BK419 hb
 replace BK424 := bB_ BK424 hb
 replace BK429 := bB_ BK429 hb
 replace HB := bS_ hb
 (try clear hb)
 (try clear hb2)
 (try clear hk)
 (try clear hi)
 refine hK.out _ _ ⟨(blk_cell BK403.out 0).trans rfl, (blk_cell BK398.out 0).trans rfl, (blk_cell BK429.out 0).trans rfl⟩ (fun hHeld => ?_)
 clear hK K
 refine nm_ 88 ?_
 refine one_ (i := 9) (N := some 91) (bqz 43 2047) rfl rfl qzc (by decide) (fun K hK => ?_)
 refine goes_ Try.func22 (by kernel_rfl) rfl #[.agg #[.slice Ao27 t392.length co27], .int .i64 t396] (by rfl) rfl rfl qz4 ?_
 with_reducible refine (impl_Free.calls k _ _ t392 t396 t431 _ ?side1 ?side2 A15.out).mono ?_
 (case side1 => exact qz35)
 (case side2 => exact qz39)
 rintro e w81 ⟨rfl, hb⟩
 refine ⟨_, rfl, ?_⟩
 replace HO394 := aM (Kd.N_below qz8 hb)
 replace HO401 := aM (Kd.N_below qz10 hb)
 replace HO406 := aM (Kd.N_below qz14 hb)
 replace HO412 := aM (Kd.N_below qz19 hb)
 replace HO417 := aM (Kd.N_below qz20 hb)
 replace HO422 := aM (Kd.N_below qz22 hb)
 replace HO427 := aM (Kd.N_below qz23 hb)
 replace BK398 := bB_ BK398 hb
 replace BK403 := bB_ BK403 hb
 replace BK408 := bB_ BK408 hb
 replace BK414 := bB_ BK414 hb
 replace BK419 := bB_ BK419 hb
 replace BK424 := bB_ BK424 hb
 replace BK429 := bB_ BK429 hb
 replace HB := bS_ hb
 (try clear hb)
 (try clear hb2)
 (try clear hk)
 (try clear hi)
 refine hK.out _ _ ⟨(blk_cell BK403.out 0).trans rfl, (blk_cell BK398.out 0).trans rfl, (blk_cell BK429.out 0).trans rfl⟩ (fun hHeld => ?_)
 clear hK K
 refine nm_ 91 ?_
 refine pI_ 11 93 (bqz 43 4095) ?_
 refine jI_ 12 94 ?_
 refine jI_ 13 95 ?_
 refine jI_ 14 96 ?_
 refine jI_ 16 98 ?_
 refine jI_ 19 101 ?_
 refine jI_ 21 103 ?_
 refine sI3_ 15 97 ?_
 refine sI3_ 18 100 ?_
 refine one_ (i := 17) (N := some 99) (bqz 43 3145727) rfl rfl qzc (by decide) (fun K hK => ?_)
 refine goes_ Try.func23 (by kernel_rfl) rfl #[.agg #[.slice Ao31 t399.length co31], .int .i64 t396] (by rfl) rfl rfl qz4 ?_
 with_reducible refine (impl_Count.calls k _ _ t399 t396 t432 _ ?side1 ?side2 A17.out).mono ?_
 (case side1 => exact qz34)
 (case side2 => exact (Kd.N_reads' HO401.out).2.1)
 rintro e w82 ⟨rfl, hb⟩
 refine ⟨_, rfl, ?_⟩
 replace HO394 := aM (Kd.N_below qz8 hb)
 replace HO401 := aM (Kd.N_below qz10 hb)
 replace HO406 := aM (Kd.N_below qz14 hb)
 replace HO412 := aM (Kd.N_below qz19 hb)
 replace HO417 := aM (Kd.N_below qz20 hb)
 replace HO422 := aM (Kd.N_below qz22 hb)
 replace HO427 := aM (Kd.N_below qz23 hb)
 replace BK398 := bB_ BK398 hb
 replace BK403 := bB_ BK403 hb
 replace BK408 := bB_ BK408 hb
 replace BK414 := bB_ BK414 hb
 replace BK419 := bB_ BK419 hb
 replace BK424 := bB_ BK424 hb
 replace BK429 := bB_ BK429 hb
 replace HB := bS_ hb
 (try clear hb)
 (try clear hb2)
 (try clear hk)
 (try clear hi)
 refine hK.out _ _ ⟨(blk_cell BK403.out 0).trans rfl, (blk_cell BK398.out 0).trans rfl, (blk_cell BK429.out 0).trans rfl⟩ (fun hHeld => ?_)
 clear hK K
 refine nm_ 99 ?_
 refine one_ (i := 20) (N := some 102) (bqz 43 4194303) rfl rfl qzc (by decide) (fun K hK => ?_)
 refine goes_ Try.func23 (by kernel_rfl) rfl #[.agg #[.slice Ao27 t392.length co27], .int .i64 t396] (by rfl) rfl rfl qz4 ?_
 with_reducible refine (impl_Count.calls k _ _ t392 t396 t433 _ ?side1 ?side2 A18.out).mono ?_
 (case side1 => exact qz35)
 (case side2 => exact qz39)
 rintro e w83 ⟨rfl, hb⟩
 refine ⟨_, rfl, ?_⟩
 replace HO394 := aM (Kd.N_below qz8 hb)
 replace HO401 := aM (Kd.N_below qz10 hb)
 replace HO406 := aM (Kd.N_below qz14 hb)
 replace HO412 := aM (Kd.N_below qz19 hb)
 replace HO417 := aM (Kd.N_below qz20 hb)
 replace HO422 := aM (Kd.N_below qz22 hb)
 replace HO427 := aM (Kd.N_below qz23 hb)
 replace BK398 := bB_ BK398 hb
 replace BK403 := bB_ BK403 hb
 replace BK408 := bB_ BK408 hb
 replace BK414 := bB_ BK414 hb
 replace BK419 := bB_ BK419 hb
 replace BK424 := bB_ BK424 hb
 replace BK429 := bB_ BK429 hb
 replace HB := bS_ hb
 (try clear hb)
 (try clear hb2)
 (try clear hk)
 (try clear hi)
 refine hK.out _ _ ⟨(blk_cell BK403.out 0).trans rfl, (blk_cell BK398.out 0).trans rfl, (blk_cell BK429.out 0).trans rfl⟩ (fun hHeld => ?_)
 clear hK K
 refine nm_ 102 ?_
 refine pI_ 22 104 (bqz 43 8388607) ?_
 refine jI_ 23 105 ?_
 refine jI_ 24 106 ?_
 refine jI_ 25 107 ?_
 refine jI_ 26 108 ?_
 refine jI_ 27 109 ?_
 refine jI_ 28 110 ?_
 refine jI_ 29 111 ?_
 refine jI_ 30 112 ?_
 refine jI_ 31 113 ?_
 refine jI_ 32 114 ?_
 refine jI_ 33 115 ?_
 refine sI3_ 34 116 ?_
 refine sI3_ 35 117 ?_
 refine one_ (i := 36) (N := some 118) (bqz 43 137438953471) rfl rfl qzc (by decide) (fun K hK => ?_)
 refine goes_ Try.func19 (by kernel_rfl) rfl #[.agg #[.slice Ao70 t425.length co70], .agg #[.slice Ao27 t392.length co27]] (by rfl) rfl rfl qz4 ?_
 with_reducible refine (laws_sameStock.calls k _ _ t425 _ _ t392 true _ ?side1 ?side2 ?side3 ?side4 A22.out (by first | rfl | exact HTR_.out)).mono ?_
 (case side1 => repeat (first | exact (Kd.N_reads' HO427.out).2.2 | (with_reducible refine Kd.C_alloc ?_ _) | (with_reducible refine Kd.C_drewN ?_ _) | (with_reducible refine Kd.C_drew ?_)))
 (case side2 => exact (Kd.N_reads' HO427.out).2.1)
 (case side3 => exact qz35)
 (case side4 => exact qz39)
 rintro e w84 ⟨rfl, hb⟩
 refine ⟨_, rfl, ?_⟩
 replace HO394 := aM (Kd.N_below qz8 hb)
 replace HO401 := aM (Kd.N_below qz10 hb)
 replace HO406 := aM (Kd.N_below qz14 hb)
 replace HO412 := aM (Kd.N_below qz19 hb)
 replace HO417 := aM (Kd.N_below qz20 hb)
 replace HO422 := aM (Kd.N_below qz22 hb)
 replace HO427 := aM (Kd.N_below qz23 hb)
 replace BK398 := bB_ BK398 hb
 replace BK403 := bB_ BK403 hb
 replace BK408 := bB_ BK408 hb
 replace BK414 := bB_ BK414 hb
 replace BK419 := bB_ BK419 hb
 replace BK424 := bB_ BK424 hb
 replace BK429 := bB_ BK429 hb
 replace HB := bS_ hb
 (try clear hb)
 (try clear hb2)
 (try clear hk)
 (try clear hi)
 refine hK.out _ _ ⟨(blk_cell BK403.out 0).trans rfl, (blk_cell BK398.out 0).trans rfl, (blk_cell BK429.out 0).trans rfl⟩ (fun hHeld => ?_)
 clear hK K
 refine nm_ 118 ?_
 refine pI_ 37 119 (bqz 43 274877906943) ?_
 refine jI_ 38 120 ?_
 refine sI3_ 39 121 ?_
 refine one_ (i := 40) (N := some 122) (bqz 43 2199023255551) rfl rfl qzc (by decide) (fun K hK => ?_)
 refine goes_ Try.func21 (by kernel_rfl) rfl #[.agg #[.slice Ao31 t399.length co31]] (by rfl) rfl rfl qz4 ?_
 with_reducible refine (impl_StockOk.calls k _ _ t399 t435 _ ?side1 ?side2 A24.out).mono ?_
 (case side1 => exact qz34)
 (case side2 => exact (Kd.N_reads' HO401.out).2.1)
 rintro e w85 ⟨rfl, hb⟩
 refine ⟨_, rfl, ?_⟩
 replace HO394 := aM (Kd.N_below qz8 hb)
 replace HO401 := aM (Kd.N_below qz10 hb)
 replace HO406 := aM (Kd.N_below qz14 hb)
 replace HO412 := aM (Kd.N_below qz19 hb)
 replace HO417 := aM (Kd.N_below qz20 hb)
 replace HO422 := aM (Kd.N_below qz22 hb)
 replace HO427 := aM (Kd.N_below qz23 hb)
 replace BK398 := bB_ BK398 hb
 replace BK403 := bB_ BK403 hb
 replace BK408 := bB_ BK408 hb
 replace BK414 := bB_ BK414 hb
 replace BK419 := bB_ BK419 hb
 replace BK424 := bB_ BK424 hb
 replace BK429 := bB_ BK429 hb
 replace HB := bS_ hb
 (try clear hb)
 (try clear hb2)
 (try clear hk)
 (try clear hi)
 refine hK.out _ _ ⟨(blk_cell BK403.out 0).trans rfl, (blk_cell BK398.out 0).trans rfl, (blk_cell BK429.out 0).trans rfl⟩ (fun hHeld => ?_)
 clear hK K
 refine nm_ 122 ?_
 refine pI_ 41 123 (bqz 43 4398046511103) ?_
 refine jI_ 42 2 ?_
 refine done_ (done_of HT_.out (by kernel_rfl)) ?_
 try go_wp2
 go_ret
 exact ⟨qzw, qz1⟩
 }
 {
 replace c23 := Bool.eq_false_iff.mpr c23
 subst c23
 rw [if_neg (show ¬ (false = true) by decide)] at H
 obtain rfl := Option.some.inj H
 exact absurd HTR_.out (by decide)
 }
 }
 {
 rw [if_neg c21] at H
 have c21b0 := beq_eq_false_iff_ne.mpr c21
 have c21b1 := bne_iff_ne.mpr c21
 obtain rfl := Option.some.inj H
 exact absurd HTR_.out (by decide)
 }
 }
 {
 rw [if_neg c20] at H
 have c20b0 := beq_eq_false_iff_ne.mpr c20
 have c20b1 := bne_iff_ne.mpr c20
 obtain rfl := Option.some.inj H
 exact absurd HTR_.out (by decide)
 }
 }
 {
 rw [if_neg c19] at H
 have c19b0 := beq_eq_false_iff_ne.mpr c19
 have c19b1 := bne_iff_ne.mpr c19
 obtain rfl := Option.some.inj H
 exact absurd HTR_.out (by decide)
 }
 }
 {
 rw [if_neg c16] at H
 have c16b0 := beq_eq_false_iff_ne.mpr c16
 have c16b1 := bne_iff_ne.mpr c16
 obtain rfl := Option.some.inj H
 exact absurd HTR_.out (by decide)
 }
 }
 {
 rw [if_neg c13] at H
 have c13b0 := beq_eq_false_iff_ne.mpr c13
 have c13b1 := bne_iff_ne.mpr c13
 obtain rfl := Option.some.inj H
 exact absurd HTR_.out (by decide)
 }
 }
 {
 rw [if_neg c8] at H
 have c8b0 := beq_eq_false_iff_ne.mpr c8
 have c8b1 := bne_iff_ne.mpr c8
 replace H := Option.bind_eq_some_iff.mp H
 obtain ⟨t409, A860, H⟩ := H
 replace H : (some t409) = some r := H
 have A86 := aM A860
 clear A860
 obtain rfl := Option.some.inj H
 simp only [Option.some.injEq, Prod.mk.injEq] at H
 obtain ⟨rfl⟩ := H
 go_enter Try.func4, Try.ntmps4
 go_wp2_with (first | ((with_reducible refine gate_callee (f := 15) rfl ?_); refine goesL_ (some 20) rfl rfl Try.func15 (by kernel_rfl) rfl #[.slice A0 l0.length c0] rfl qz4 ?_; (with_reducible refine (laws_big.calls _ _ l0 false _ ?side1 ?side2 A2.out).mono ?_); (case side1 => exact qz25); (case side2 => exact HC0.out); rintro e w' ⟨rfl, ⟨nd, rfl⟩⟩; refine ⟨_, rfl, ?_⟩) | ((with_reducible refine gate_callee (f := 24) rfl ?_); refine goesL_ (some 23) rfl rfl Try.func24 (by kernel_rfl) rfl #[.slice A0 l0.length c0] rfl qz4 ?_; (with_reducible refine (spec_DrawPutIn.calls k _ _ l0 t392 t395 t396 t397 _ ?side1 ?side2 A4.out).mono ?_); (case side1 => exact qz25); (case side2 => exact HC0.out); rintro e w87 ⟨v393, rfl, ho0, hb⟩; refine ⟨_, rfl, ?_⟩; have HO394 := aM (Kd.N_lower (Kd.N_mono (ok' := fun k_ => True) ho0 (fun k_ hk_ => trivial)) (below_size qz1)); replace HB := bS_ hb; (try clear hb); (try clear hb2); (try clear hk); (try clear hi); (try clear ho0)) | ((with_reducible refine gate_dst (N := 3) rfl ?_); refine bx_ 3 #[.slice none 0 0] 26 ?_; intro gb398 hg w88 hbox hb; replace HO394 := aM (Kd.N_below (Kd.N_elderB qz8 gb398 (Nat.le_of_eq hg.symm)) hb); have BK398 := aM (hbox); have GW398 := aM (bz_ w hg qz1); have GE398 := GW398; replace HB := bS_ hb; clear hb hbox hg; obtain ⟨Ao89, co89, eo89⟩ := Kd.N_slice HO394.out; subst eo89; obtain ⟨hcz90_0, hfz90_0⟩ := bf_ BK398.out) | ((with_reducible refine gate_callee (f := 25) rfl ?_); refine goesL_ (some 33) rfl rfl Try.func25 (by kernel_rfl) rfl #[.agg #[.slice Ao89 t392.length co89], .int .i64 t395, .int .i64 t396, .int .i64 t397] rfl qz4 ?_; (with_reducible refine (impl_PutIn.calls k _ _ t392 t395 t396 t397 t399 t402 _ ?side1 ?side2 A5.out).mono ?_); (case side1 => refine (Kd.N_reads' (e := 79) (base := w.heap.size) (ok := fun k_ => (True ∧ k_ ≠ gb398)) (n := t392.length) (c := co89) ?_).2.2; exact (by (with_reducible repeat (first | apply Kd.N_alloc | apply Kd.N_drewN | apply Kd.N_drew)); exact (Kd.N_mono (Kd.N_far (p := ⟨gb398, 0, none⟩) (Kd.N_mono HO394.out (fun k_ hk => (⟨hk, hk.2⟩ : _ ∧ k_ ≠ gb398))) (fun _ hk => hk.2) (.slice Ao89 t392.length co89)) (fun _ h_ => h_.1)))); (case side2 => exact qz39); rintro e w91 ⟨v400, rfl, ho0, hb⟩; refine ⟨_, rfl, ?_⟩; have HO401 := aM (Kd.N_lower (Kd.N_mono (ok' := fun k_ => some k_ ≠ (.slice Ao89 t392.length co89 : Value).ownBlock ∧ k_ ≠ gb398) (Kd.S_N (Kd.S_bound ho0)) (fun k_ hk_ => ⟨(Kd.fresh' (Kd.N_lt (by (with_reducible repeat (first | apply Kd.N_alloc | apply Kd.N_drewN | apply Kd.N_drew)); exact (Kd.N_mono (Kd.N_far (p := ⟨gb398, 0, none⟩) (Kd.N_mono HO394.out (fun k_ hk => (⟨hk, hk.2⟩ : _ ∧ k_ ≠ gb398))) (fun _ hk => hk.2) (.slice Ao89 t392.length co89)) (fun _ h_ => h_.1)))) k_ hk_.2.1), (Kd.freshB (g := gb398) (o := .cells #[.slice Ao89 t392.length co89] 26 (0, 0)) (by (with_reducible repeat (first | refine blk_drewN ?_ _ | refine blk_drew ?_ | refine blk_alloc ?_ _)); refine blk_put (cs := #[.slice none 0 0]) ?_ 0 _ rfl; exact bk_ BK398.out) k_ hk_.2.1)⟩)) (below_size qz1)); replace HO394 := aM (Kd.N_elder' (by (with_reducible repeat (first | apply Kd.N_alloc | apply Kd.N_drewN | apply Kd.N_drew)); exact (Kd.N_mono (Kd.N_far (p := ⟨gb398, 0, none⟩) (Kd.N_mono HO394.out (fun k_ hk => (⟨hk, hk.2⟩ : _ ∧ k_ ≠ gb398))) (fun _ hk => hk.2) (.slice Ao89 t392.length co89)) (fun _ h_ => h_.1))) (Kd.S_base ho0) hb); replace BK398 := aM (blk_below (g := gb398) (o := .cells #[.slice Ao89 t392.length co89] 26 (0, 0)) (by (with_reducible repeat (first | refine blk_drewN ?_ _ | refine blk_drew ?_ | refine blk_alloc ?_ _)); refine blk_put (cs := #[.slice none 0 0]) ?_ 0 _ rfl; exact bk_ BK398.out) hb); replace HB := bS_ hb; (try clear hb); (try clear hb2); (try clear hk); (try clear hi); (try clear ho0)) | ((with_reducible refine gate_dst (N := 7) rfl ?_); refine bx_ 7 #[.slice none 0 0] 26 ?_; intro gb403 hg w92 hbox hb; replace HO394 := aM (Kd.N_below (Kd.N_elderB qz8 gb403 (Nat.le_of_eq hg.symm)) hb); replace HO401 := aM (Kd.N_below (Kd.N_elderB qz10 gb403 (Nat.le_of_eq hg.symm)) hb); have BK403 := aM (hbox); have GW403 := aM (bz_ w hg qz1); have GE403 := GW403; replace HB := bS_ hb; obtain ⟨NB398_403, NB403_398⟩ := nb_ hg (bk_ BK398.out); replace BK398 := bB_ BK398 hb; clear hb hbox hg; obtain ⟨Ao93, co93, eo93⟩ := Kd.N_slice HO401.out; subst eo93; have hnb94 := NB403_398.out; have hnc94 := NB398_403.out; obtain ⟨hcz95_0, hfz95_0⟩ := bf_ BK403.out; obtain ⟨hcz96_0, hfz96_0⟩ := bf_ BK398.out) | ((with_reducible refine gate_callee (f := 26) rfl ?_); refine goesL_ (some 41) rfl rfl Try.func26 (by kernel_rfl) rfl #[.agg #[.slice Ao89 t392.length co89], .int .i64 t395, .int .i64 t396, .int .i64 t397] rfl qz4 ?_; (with_reducible refine (spec_PutIn.calls k _ _ t392 t395 t396 t397 t404 t407 _ ?side1 ?side2 A6.out).mono ?_); (case side1 => refine (Kd.N_reads' (e := 79) (base := w.heap.size) (ok := fun k_ => (((True ∧ k_ ≠ gb398) ∧ some k_ ≠ (.slice Ao93 t399.length co93 : Value).ownBlock) ∧ k_ ≠ gb403)) (n := t392.length) (c := co89) ?_).2.2; exact (by (with_reducible repeat (first | apply Kd.N_alloc | apply Kd.N_drewN | apply Kd.N_drew)); exact (Kd.N_mono (Kd.N_far (p := ⟨gb403, 0, none⟩) (Kd.N_mono HO394.out (fun k_ hk => (⟨hk, hk.2⟩ : _ ∧ k_ ≠ gb403))) (fun _ hk => hk.2) (.slice Ao93 t399.length co93)) (fun _ h_ => h_.1)))); (case side2 => exact qz39); rintro e w97 ⟨v405, rfl, ho0, hb⟩; refine ⟨_, rfl, ?_⟩; have HO406 := aM (Kd.N_lower (Kd.N_mono (ok' := fun k_ => some k_ ≠ (.slice Ao89 t392.length co89 : Value).ownBlock ∧ some k_ ≠ (.slice Ao93 t399.length co93 : Value).ownBlock ∧ k_ ≠ gb398 ∧ k_ ≠ gb403) (Kd.S_N (Kd.S_bound ho0)) (fun k_ hk_ => ⟨(Kd.fresh' (Kd.N_lt (by (with_reducible repeat (first | apply Kd.N_alloc | apply Kd.N_drewN | apply Kd.N_drew)); exact (Kd.N_mono (Kd.N_far (p := ⟨gb403, 0, none⟩) (Kd.N_mono HO394.out (fun k_ hk => (⟨hk, hk.2⟩ : _ ∧ k_ ≠ gb403))) (fun _ hk => hk.2) (.slice Ao93 t399.length co93)) (fun _ h_ => h_.1)))) k_ hk_.2.1), (Kd.fresh' (Kd.N_lt (by (with_reducible repeat (first | apply Kd.N_alloc | apply Kd.N_drewN | apply Kd.N_drew)); exact (Kd.N_mono (Kd.N_far (p := ⟨gb403, 0, none⟩) (Kd.N_mono HO401.out (fun k_ hk => (⟨hk, hk.2⟩ : _ ∧ k_ ≠ gb403))) (fun _ hk => hk.2) (.slice Ao93 t399.length co93)) (fun _ h_ => h_.1)))) k_ hk_.2.1), (Kd.freshB (g := gb398) (o := .cells #[.slice Ao89 t392.length co89] 26 (0, 0)) (bk2_ BK398.out) k_ hk_.2.1), (Kd.freshB (g := gb403) (o := .cells #[.slice Ao93 t399.length co93] 26 (0, 0)) (by (with_reducible repeat (first | refine blk_drewN ?_ _ | refine blk_drew ?_ | refine blk_alloc ?_ _)); refine blk_put (cs := #[.slice none 0 0]) ?_ 0 _ rfl; exact bk_ BK403.out) k_ hk_.2.1)⟩)) (below_size qz1)); replace HO394 := aM (Kd.N_elder' (by (with_reducible repeat (first | apply Kd.N_alloc | apply Kd.N_drewN | apply Kd.N_drew)); exact (Kd.N_mono (Kd.N_far (p := ⟨gb403, 0, none⟩) (Kd.N_mono HO394.out (fun k_ hk => (⟨hk, hk.2⟩ : _ ∧ k_ ≠ gb403))) (fun _ hk => hk.2) (.slice Ao93 t399.length co93)) (fun _ h_ => h_.1))) (Kd.S_base ho0) hb); replace HO401 := aM (Kd.N_elder' (by (with_reducible repeat (first | apply Kd.N_alloc | apply Kd.N_drewN | apply Kd.N_drew)); exact (Kd.N_mono (Kd.N_far (p := ⟨gb403, 0, none⟩) (Kd.N_mono HO401.out (fun k_ hk => (⟨hk, hk.2⟩ : _ ∧ k_ ≠ gb403))) (fun _ hk => hk.2) (.slice Ao93 t399.length co93)) (fun _ h_ => h_.1))) (Kd.S_base ho0) hb); replace BK398 := aM (blk_below (g := gb398) (o := .cells #[.slice Ao89 t392.length co89] 26 (0, 0)) (bk2_ BK398.out) hb); replace BK403 := aM (blk_below (g := gb403) (o := .cells #[.slice Ao93 t399.length co93] 26 (0, 0)) (by (with_reducible repeat (first | refine blk_drewN ?_ _ | refine blk_drew ?_ | refine blk_alloc ?_ _)); refine blk_put (cs := #[.slice none 0 0]) ?_ 0 _ rfl; exact bk_ BK403.out) hb); replace HB := bS_ hb; (try clear hb); (try clear hb2); (try clear hk); (try clear hi); (try clear ho0)) | ((with_reducible refine gate_dst (N := 9) rfl ?_); refine bx_ 9 #[.slice none 0 0] 26 ?_; intro gb408 hg w98 hbox hb; replace HO394 := aM (Kd.N_below (Kd.N_elderB qz8 gb408 (Nat.le_of_eq hg.symm)) hb); replace HO401 := aM (Kd.N_below (Kd.N_elderB qz10 gb408 (Nat.le_of_eq hg.symm)) hb); replace HO406 := aM (Kd.N_below (Kd.N_elderB qz14 gb408 (Nat.le_of_eq hg.symm)) hb); have BK408 := aM (hbox); have GW408 := aM (bz_ w hg qz1); have GE408 := GW408; replace HB := bS_ hb; obtain ⟨NB398_408, NB408_398⟩ := nb_ hg (bk_ BK398.out); replace BK398 := bB_ BK398 hb; obtain ⟨NB403_408, NB408_403⟩ := nb_ hg (bk_ BK403.out); replace BK403 := bB_ BK403 hb; clear hb hbox hg; obtain ⟨Ao99, co99, eo99⟩ := Kd.N_slice HO406.out; subst eo99; have hnb100 := NB408_398.out; have hnc100 := NB398_408.out; have hnb101 := NB408_403.out; have hnc101 := NB403_408.out; obtain ⟨hcz102_0, hfz102_0⟩ := bf_ BK408.out; obtain ⟨hcz103_0, hfz103_0⟩ := bf_ BK403.out; obtain ⟨hcz104_0, hfz104_0⟩ := bf_ BK398.out) | ((with_reducible refine gate_callee (f := 19) rfl ?_); refine goesL_ (some 51) rfl rfl Try.func19 (by kernel_rfl) rfl #[.agg #[.slice Ao93 t399.length co93], .agg #[.slice Ao89 t392.length co89]] rfl qz4 ?_; (with_reducible refine (laws_sameStock.calls k _ _ t399 _ _ t392 t409 _ ?side1 ?side2 ?side3 ?side4 A86.out (by first | rfl | exact HTR_.out)).mono ?_); (case side1 => refine (Kd.N_reads' (e := 79) (base := w.heap.size) (ok := fun k_ => ((((some k_ ≠ (.slice Ao89 t392.length co89 : Value).ownBlock ∧ k_ ≠ gb398) ∧ k_ ≠ gb403) ∧ some k_ ≠ (.slice Ao99 t404.length co99 : Value).ownBlock) ∧ k_ ≠ gb408)) (n := t399.length) (c := co93) ?_).2.2; exact (by (with_reducible repeat (first | apply Kd.N_alloc | apply Kd.N_drewN | apply Kd.N_drew)); exact (Kd.N_mono (Kd.N_far (p := ⟨gb408, 0, none⟩) (Kd.N_mono HO401.out (fun k_ hk => (⟨hk, hk.2⟩ : _ ∧ k_ ≠ gb408))) (fun _ hk => hk.2) (.slice Ao99 t404.length co99)) (fun _ h_ => h_.1)))); (case side2 => exact (Kd.N_reads' HO401.out).2.1); (case side3 => refine (Kd.N_reads' (e := 79) (base := w.heap.size) (ok := fun k_ => (((((True ∧ k_ ≠ gb398) ∧ some k_ ≠ (.slice Ao93 t399.length co93 : Value).ownBlock) ∧ k_ ≠ gb403) ∧ some k_ ≠ (.slice Ao99 t404.length co99 : Value).ownBlock) ∧ k_ ≠ gb408)) (n := t392.length) (c := co89) ?_).2.2; exact (by (with_reducible repeat (first | apply Kd.N_alloc | apply Kd.N_drewN | apply Kd.N_drew)); exact (Kd.N_mono (Kd.N_far (p := ⟨gb408, 0, none⟩) (Kd.N_mono HO394.out (fun k_ hk => (⟨hk, hk.2⟩ : _ ∧ k_ ≠ gb408))) (fun _ hk => hk.2) (.slice Ao99 t404.length co99)) (fun _ h_ => h_.1)))); (case side4 => exact qz39); rintro e w105 ⟨rfl, hb⟩; refine ⟨_, rfl, ?_⟩; replace HO394 := aM (Kd.N_below (by (with_reducible repeat (first | apply Kd.N_alloc | apply Kd.N_drewN | apply Kd.N_drew)); exact (Kd.N_mono (Kd.N_far (p := ⟨gb408, 0, none⟩) (Kd.N_mono HO394.out (fun k_ hk => (⟨hk, hk.2⟩ : _ ∧ k_ ≠ gb408))) (fun _ hk => hk.2) (.slice Ao99 t404.length co99)) (fun _ h_ => h_.1))) hb); replace HO401 := aM (Kd.N_below (by (with_reducible repeat (first | apply Kd.N_alloc | apply Kd.N_drewN | apply Kd.N_drew)); exact (Kd.N_mono (Kd.N_far (p := ⟨gb408, 0, none⟩) (Kd.N_mono HO401.out (fun k_ hk => (⟨hk, hk.2⟩ : _ ∧ k_ ≠ gb408))) (fun _ hk => hk.2) (.slice Ao99 t404.length co99)) (fun _ h_ => h_.1))) hb); replace HO406 := aM (Kd.N_below (by (with_reducible repeat (first | apply Kd.N_alloc | apply Kd.N_drewN | apply Kd.N_drew)); exact (Kd.N_mono (Kd.N_far (p := ⟨gb408, 0, none⟩) (Kd.N_mono HO406.out (fun k_ hk => (⟨hk, hk.2⟩ : _ ∧ k_ ≠ gb408))) (fun _ hk => hk.2) (.slice Ao99 t404.length co99)) (fun _ h_ => h_.1))) hb); replace BK398 := aM (blk_below (g := gb398) (o := .cells #[.slice Ao89 t392.length co89] 26 (0, 0)) (bk2_ BK398.out) hb); replace BK403 := aM (blk_below (g := gb403) (o := .cells #[.slice Ao93 t399.length co93] 26 (0, 0)) (bk2_ BK403.out) hb); replace BK408 := aM (blk_below (g := gb408) (o := .cells #[.slice Ao99 t404.length co99] 26 (0, 0)) (by (with_reducible repeat (first | refine blk_drewN ?_ _ | refine blk_drew ?_ | refine blk_alloc ?_ _)); refine blk_put (cs := #[.slice none 0 0]) ?_ 0 _ rfl; exact bk_ BK408.out) hb); replace HB := bS_ hb; (try clear hb); (try clear hb2); (try clear hk); (try clear hi)))
 go_ret
 exact ⟨qzw, qz1⟩
 }
 }
 {
 rw [if_neg c7] at H
 have c7b0 := beq_eq_false_iff_ne.mpr c7
 have c7b1 := bne_iff_ne.mpr c7
 obtain rfl := Option.some.inj H
 exact absurd HTR_.out (by decide)

 }
 }
/-- THE ONE PURE STATEMENT of laws_FnTaken: yours. -/
def laws_FnTaken.Pure : Prop := ∀ (l0 : List Int), l0.length ≤ maxLen → l0.length * 1 ≤ 140737488351232 → (∀ x ∈ l0, (Lit.int .u8 x).wf = true) → ∃ k, laws_FnTaken.f k l0 = some true
theorem laws_FnTaken.walk (P : laws_FnTaken.Pure) (a0 : Option Addr) (len0 cap0 : Nat) (z0 : List Int) (w : World) (w0 : (a0 = none ∧ len0 = 0 ∧ cap0 = 0 ∧ z0 = []) ∨ ∃ x, a0 = some x ∧ len0 ≤ cap0 ∧ cap0 ≤ maxLen ∧ z0.length = cap0 ∧ (∀ i, i < z0.length → w.cell? (x.add i) = some (.int .u8 (z0.getD i 0))) ∧ ∀ n ∈ z0, (Lit.int .u8 n).wf = true) (y0 : len0 * 1 ≤ 140737488351232) :
  Calls Try.prog 4 #[.slice a0 len0 cap0] w fun e w' => e = .returned (.bool true) ∧ Below w.heap.size w w' := by
 obtain ⟨l0, rfl, hr0, hm0, hw0, hc0⟩ := ReadsInt.ofRowC w0
 obtain ⟨k, h⟩ := P l0 hm0 y0 hw0
 refine (laws_FnTaken.calls k _ _ l0 true w (Kd.C_of_reads (d := (0 : Int)) (h1 := fun _ => rfl) hr0) hc0 rfl h).mono ?_
 rintro e w' ⟨rfl, hd⟩
 exact ⟨rfl, hd⟩

end Go.Proofs.Yteajnkondkfmgaa.PFnTaken
