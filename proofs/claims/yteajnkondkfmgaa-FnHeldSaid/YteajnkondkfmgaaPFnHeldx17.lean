-- Made by a program of this session out of the translation. Lean checks it.
import Derived.Test.YteajnkondkfmgaaPFnHeldx0
import Derived.Test.YteajnkondkfmgaaPFnHeldx2
import Derived.Test.YteajnkondkfmgaaPFnHeldx6
import Derived.Test.YteajnkondkfmgaaPFnHeldx9
import Derived.Test.YteajnkondkfmgaaPFnHeldx10
import Derived.Test.YteajnkondkfmgaaPFnHeldx14
import Derived.Test.YteajnkondkfmgaaPFnHeldx15
import Derived.Test.YteajnkondkfmgaaPFnHeldx16
namespace Go.Proofs.Yteajnkondkfmgaa.PFnHeld
open Go.RowKit Go.Proofs.YteajnkondkfmgaaW.PrintWords Go.Proofs.YteajnkondkfmgaaW.PrintLast Go.Proofs.YteajnkondkfmgaaW.PrintMore
attribute [local go_sem] max2_int min2_int max_two min_two max_three min_three max_four min_four   -- for this text's walks alone
set_option linter.unusedVariables false
set_option linter.unusedSimpArgs false

/-! ### laws_FnHeld: function 3 -/
def laws_FnHeld.f (k : Nat) (l0 : List Int) : Option (Bool) := (laws_big.f l0).bind fun t391 => (if t391 = true then (some true) else ((spec_DrawHold.f k l0).bind fun bt392 => ((impl_Hold.f k bt392.1 bt392.2.1 bt392.2.2.1 bt392.2.2.2).bind fun bt399 => ((spec_Hold.f k bt392.1 bt392.2.1 bt392.2.2.1 bt392.2.2.2).bind fun bt404 => (if bt399.2 = bt404.2 then (if bt399.2 = 0 then ((impl_Release.f k bt399.1 bt392.2.1 bt392.2.2.1 bt392.2.2.2).bind fun bt410 => ((impl_StockOk.f k bt399.1).bind fun t415 => (if t415 = true then ((impl_Free.f k bt399.1 bt392.2.2.1).bind fun t416 => ((impl_Free.f k bt392.1 bt392.2.2.1).bind fun t417 => (if t416 = (wrap64 (t417 - bt392.2.2.2)) then ((impl_Count.f k bt399.1 bt392.2.2.1).bind fun t418 => ((impl_Count.f k bt392.1 bt392.2.2.1).bind fun t419 => (if t418 = t419 then (if bt410.2 = 0 then ((laws_sameStock.f k bt410.1 bt392.1).bind fun t420 => (some t420)) else (some false)) else (some false)))) else (some false)))) else (some false)))) else ((laws_sameStock.f k bt399.1 bt392.1).bind fun t409 => (some t409))) else (some false))))))
theorem laws_FnHeld.mono : ∀ a0 k, LeO (laws_FnHeld.f k a0) (laws_FnHeld.f (k + 1) a0) := by
 intro a0 k
 unfold laws_FnHeld.f
 repeat' first
  | (with_reducible first | exact impl_Count.mono _ _ _ | exact impl_Free.mono _ _ _ | exact impl_Hold.mono _ _ _ _ _ | exact impl_Release.mono _ _ _ _ _ | exact impl_StockOk.mono _ _ | exact laws_sameStock.mono _ _ _ | exact spec_DrawHold.mono _ _ | exact spec_Hold.mono _ _ _ _ _ | exact LeO.refl _ | exact LeO.none _ | refine LeO.ite ?_ ?_ | refine LeO.bind ?_ (fun _ => ?_))
  | exact impl_Count.mono _ _ _
  | exact impl_Free.mono _ _ _
  | exact impl_Hold.mono _ _ _ _ _
  | exact impl_Release.mono _ _ _ _ _
  | exact impl_StockOk.mono _ _
  | exact laws_sameStock.mono _ _ _
  | exact spec_DrawHold.mono _ _
  | exact spec_Hold.mono _ _ _ _ _
  | exact LeO.none _
  | refine LeO.ite ?_ ?_
  | refine LeO.bind ?_ (fun _ => ?_)
def laws_FnHeld.T11 : Bool × List (List Nat × List Nat) := (true, [([], []), ([0], [0]), ([1, 1], [1]), ([2], [2]), ([2], [2]), ([3, 4, 2, 2], [2, 3, 4]), ([2], [2]), ([2], [2]), ([6, 7, 5, 2], [2, 6, 7]), ([2], [2]), ([8, 9, 2], [2, 8, 9]), ([5, 10, 2], [2, 5, 10]), ([2, 11], [2, 11]), ([12, 8], [12]), ([13], [13]), ([13], [13]), ([14, 15, 13, 13], [13, 14, 15]), ([13], [13]), ([13], [13]), ([17, 18, 16, 13], [13, 17, 18]), ([16, 19, 13], [13, 16, 19]), ([13, 20], [13, 20]), ([21, 19], [21]), ([22], [22]), ([23, 22], [22, 23]), ([22, 24], [22, 24]), ([25, 22], [25]), ([26], [26]), ([26], [26]), ([27, 28, 26, 26], [26, 27, 28]), ([26, 29], [26, 29]), ([30, 29, 0, 1, 2, 3, 4, 5, 6, 7, 8, 9, 10, 11, 12, 13, 14, 15, 16, 17, 18, 19, 20, 21, 22, 23, 24, 25, 26, 27, 28, 29, 30], [30])])
def laws_FnHeld.B11 : List Nat := [0, 1, 3, 7, 7, 31, 7, 7, 255, 7, 1023, 2047, 4095, 8191, 16383, 16383, 65535, 16383, 16383, 524287, 1048575, 2097151, 4194303, 8388607, 16777215, 33554431, 67108863, 134217727, 134217727, 536870911, 1073741823, 2147483647]
theorem laws_FnHeld.tab11 : rtab .any (opsOf Try.f3 11) = laws_FnHeld.T11 := by kernel_rfl
theorem laws_FnHeld.bits11 : waitsOk laws_FnHeld.T11.2 laws_FnHeld.B11 = true := by kernel_rfl
set_option maxHeartbeats 8000000 in
set_option maxRecDepth 100000 in
theorem laws_FnHeld.calls (k : Nat) (A0 : Option Addr) (c0 : Nat) (l0 : List Int) (r : Bool) (w : World) (hr0 : Kd.C (Kd.int .u8) w A0 l0.length l0) (hc0 : l0.length ≤ c0) (hT : r = true) (h : laws_FnHeld.f k l0 = some r) :
  Calls Try.prog 3 #[.slice A0 l0.length c0] w fun e w' => e = .returned (.bool r) ∧ Below w.heap.size w w' := by
 have HTR_ := aM hT
 clear hT
 have hu26 := Try.underlying26
 have HR0 := aM hr0
 have HC0 := aM hc0
 clear hr0 hc0
 have HB := aM (Below.refl w.heap.size w)
 have H : ((laws_big.f l0).bind fun t391 => (if t391 = true then (some true) else ((spec_DrawHold.f k l0).bind fun bt392 => ((impl_Hold.f k bt392.1 bt392.2.1 bt392.2.2.1 bt392.2.2.2).bind fun bt399 => ((spec_Hold.f k bt392.1 bt392.2.1 bt392.2.2.1 bt392.2.2.2).bind fun bt404 => (if bt399.2 = bt404.2 then (if bt399.2 = 0 then ((impl_Release.f k bt399.1 bt392.2.1 bt392.2.2.1 bt392.2.2.2).bind fun bt410 => ((impl_StockOk.f k bt399.1).bind fun t415 => (if t415 = true then ((impl_Free.f k bt399.1 bt392.2.2.1).bind fun t416 => ((impl_Free.f k bt392.1 bt392.2.2.1).bind fun t417 => (if t416 = (wrap64 (t417 - bt392.2.2.2)) then ((impl_Count.f k bt399.1 bt392.2.2.1).bind fun t418 => ((impl_Count.f k bt392.1 bt392.2.2.1).bind fun t419 => (if t418 = t419 then (if bt410.2 = 0 then ((laws_sameStock.f k bt410.1 bt392.1).bind fun t420 => (some t420)) else (some false)) else (some false)))) else (some false)))) else (some false)))) else ((laws_sameStock.f k bt399.1 bt392.1).bind fun t409 => (some t409))) else (some false))))))) = some r := h
 clear h
 replace H := Option.bind_eq_some_iff.mp H
 obtain ⟨t391, A20, H⟩ := H
 replace H : (if t391 = true then (some true) else ((spec_DrawHold.f k l0).bind fun bt392 => ((impl_Hold.f k bt392.1 bt392.2.1 bt392.2.2.1 bt392.2.2.2).bind fun bt399 => ((spec_Hold.f k bt392.1 bt392.2.1 bt392.2.2.1 bt392.2.2.2).bind fun bt404 => (if bt399.2 = bt404.2 then (if bt399.2 = 0 then ((impl_Release.f k bt399.1 bt392.2.1 bt392.2.2.1 bt392.2.2.2).bind fun bt410 => ((impl_StockOk.f k bt399.1).bind fun t415 => (if t415 = true then ((impl_Free.f k bt399.1 bt392.2.2.1).bind fun t416 => ((impl_Free.f k bt392.1 bt392.2.2.1).bind fun t417 => (if t416 = (wrap64 (t417 - bt392.2.2.2)) then ((impl_Count.f k bt399.1 bt392.2.2.1).bind fun t418 => ((impl_Count.f k bt392.1 bt392.2.2.1).bind fun t419 => (if t418 = t419 then (if bt410.2 = 0 then ((laws_sameStock.f k bt410.1 bt392.1).bind fun t420 => (some t420)) else (some false)) else (some false)))) else (some false)))) else (some false)))) else ((laws_sameStock.f k bt399.1 bt392.1).bind fun t409 => (some t409))) else (some false)))))) = some r := H
 have A2 := aM A20
 clear A20
 by_cases c3 : t391 = true
 {
 subst c3
 rw [if_pos rfl] at H
 obtain rfl := Option.some.inj H
 simp only [Option.some.injEq, Prod.mk.injEq] at H
 obtain ⟨rfl⟩ := H
 go_enter Try.func3, Try.ntmps3
 go_wp2_with (first | ((with_reducible refine gate_callee (f := 15) rfl ?_); refine goesL_ (some 14) rfl rfl Try.func15 (by kernel_rfl) rfl #[.slice A0 l0.length c0] rfl qz1 ?_; (with_reducible refine (laws_big.calls _ _ l0 true _ ?side1 ?side2 A2.out).mono ?_); (case side1 => exact qz73); (case side2 => exact HC0.out); rintro e w' ⟨rfl, ⟨nd, rfl⟩⟩; refine ⟨_, rfl, ?_⟩))
 go_ret
 exact ⟨by first | rfl | (simp [errW_none, errW_some] <;> rfl) | (simp [*, errW_none, errW_some] <;> rfl), by repeat (first | (with_reducible first | exact HB.out | apply below_alloc | apply pw_below_drewN | apply below_drew1) | exact HB.out)⟩
 }
 {
 replace c3 := Bool.eq_false_iff.mpr c3
 subst c3
 rw [if_neg (show ¬ (false = true) by decide)] at H
 replace H := Option.bind_eq_some_iff.mp H
 obtain ⟨⟨t392, t395, t396, t397⟩, A40, H⟩ := H
 replace H : ((impl_Hold.f k t392 t395 t396 t397).bind fun bt399 => ((spec_Hold.f k t392 t395 t396 t397).bind fun bt404 => (if bt399.2 = bt404.2 then (if bt399.2 = 0 then ((impl_Release.f k bt399.1 t395 t396 t397).bind fun bt410 => ((impl_StockOk.f k bt399.1).bind fun t415 => (if t415 = true then ((impl_Free.f k bt399.1 t396).bind fun t416 => ((impl_Free.f k t392 t396).bind fun t417 => (if t416 = (wrap64 (t417 - t397)) then ((impl_Count.f k bt399.1 t396).bind fun t418 => ((impl_Count.f k t392 t396).bind fun t419 => (if t418 = t419 then (if bt410.2 = 0 then ((laws_sameStock.f k bt410.1 t392).bind fun t420 => (some t420)) else (some false)) else (some false)))) else (some false)))) else (some false)))) else ((laws_sameStock.f k bt399.1 t392).bind fun t409 => (some t409))) else (some false)))) = some r := H
 have A4 := aM A40
 clear A40
 replace H := Option.bind_eq_some_iff.mp H
 obtain ⟨⟨t399, t402⟩, A50, H⟩ := H
 replace H : ((spec_Hold.f k t392 t395 t396 t397).bind fun bt404 => (if t402 = bt404.2 then (if t402 = 0 then ((impl_Release.f k t399 t395 t396 t397).bind fun bt410 => ((impl_StockOk.f k t399).bind fun t415 => (if t415 = true then ((impl_Free.f k t399 t396).bind fun t416 => ((impl_Free.f k t392 t396).bind fun t417 => (if t416 = (wrap64 (t417 - t397)) then ((impl_Count.f k t399 t396).bind fun t418 => ((impl_Count.f k t392 t396).bind fun t419 => (if t418 = t419 then (if bt410.2 = 0 then ((laws_sameStock.f k bt410.1 t392).bind fun t420 => (some t420)) else (some false)) else (some false)))) else (some false)))) else (some false)))) else ((laws_sameStock.f k t399 t392).bind fun t409 => (some t409))) else (some false))) = some r := H
 have A5 := aM A50
 clear A50
 replace H := Option.bind_eq_some_iff.mp H
 obtain ⟨⟨t404, t407⟩, A60, H⟩ := H
 replace H : (if t402 = t407 then (if t402 = 0 then ((impl_Release.f k t399 t395 t396 t397).bind fun bt410 => ((impl_StockOk.f k t399).bind fun t415 => (if t415 = true then ((impl_Free.f k t399 t396).bind fun t416 => ((impl_Free.f k t392 t396).bind fun t417 => (if t416 = (wrap64 (t417 - t397)) then ((impl_Count.f k t399 t396).bind fun t418 => ((impl_Count.f k t392 t396).bind fun t419 => (if t418 = t419 then (if bt410.2 = 0 then ((laws_sameStock.f k bt410.1 t392).bind fun t420 => (some t420)) else (some false)) else (some false)))) else (some false)))) else (some false)))) else ((laws_sameStock.f k t399 t392).bind fun t409 => (some t409))) else (some false)) = some r := H
 have A6 := aM A60
 clear A60
 by_cases c7 : t402 = t407
 {
 rw [if_pos c7] at H
 have c7b0 := beq_iff_eq.mpr c7
 have c7b1 := bne_eq_false_iff_eq.mpr c7
 clear c7
 by_cases c8 : t402 = 0
 {
 rw [if_pos c8] at H
 have c8b0 := beq_iff_eq.mpr c8
 have c8b1 := bne_eq_false_iff_eq.mpr c8
 clear c8
 replace H := Option.bind_eq_some_iff.mp H
 obtain ⟨⟨t410, t413⟩, A90, H⟩ := H
 replace H : ((impl_StockOk.f k t399).bind fun t415 => (if t415 = true then ((impl_Free.f k t399 t396).bind fun t416 => ((impl_Free.f k t392 t396).bind fun t417 => (if t416 = (wrap64 (t417 - t397)) then ((impl_Count.f k t399 t396).bind fun t418 => ((impl_Count.f k t392 t396).bind fun t419 => (if t418 = t419 then (if t413 = 0 then ((laws_sameStock.f k t410 t392).bind fun t420 => (some t420)) else (some false)) else (some false)))) else (some false)))) else (some false))) = some r := H
 have A9 := aM A90
 clear A90
 replace H := Option.bind_eq_some_iff.mp H
 obtain ⟨t415, A100, H⟩ := H
 replace H : (if t415 = true then ((impl_Free.f k t399 t396).bind fun t416 => ((impl_Free.f k t392 t396).bind fun t417 => (if t416 = (wrap64 (t417 - t397)) then ((impl_Count.f k t399 t396).bind fun t418 => ((impl_Count.f k t392 t396).bind fun t419 => (if t418 = t419 then (if t413 = 0 then ((laws_sameStock.f k t410 t392).bind fun t420 => (some t420)) else (some false)) else (some false)))) else (some false)))) else (some false)) = some r := H
 have A10 := aM A100
 clear A100
 by_cases c11 : t415 = true
 {
 subst c11
 rw [if_pos rfl] at H
 replace H := Option.bind_eq_some_iff.mp H
 obtain ⟨t416, A120, H⟩ := H
 replace H : ((impl_Free.f k t392 t396).bind fun t417 => (if t416 = (wrap64 (t417 - t397)) then ((impl_Count.f k t399 t396).bind fun t418 => ((impl_Count.f k t392 t396).bind fun t419 => (if t418 = t419 then (if t413 = 0 then ((laws_sameStock.f k t410 t392).bind fun t420 => (some t420)) else (some false)) else (some false)))) else (some false))) = some r := H
 have A12 := aM A120
 clear A120
 replace H := Option.bind_eq_some_iff.mp H
 obtain ⟨t417, A130, H⟩ := H
 replace H : (if t416 = (wrap64 (t417 - t397)) then ((impl_Count.f k t399 t396).bind fun t418 => ((impl_Count.f k t392 t396).bind fun t419 => (if t418 = t419 then (if t413 = 0 then ((laws_sameStock.f k t410 t392).bind fun t420 => (some t420)) else (some false)) else (some false)))) else (some false)) = some r := H
 have A13 := aM A130
 clear A130
 by_cases c14 : t416 = (wrap64 (t417 - t397))
 {
 rw [if_pos c14] at H
 have c14b0 := beq_iff_eq.mpr c14
 have c14b1 := bne_eq_false_iff_eq.mpr c14
 clear c14
 replace H := Option.bind_eq_some_iff.mp H
 obtain ⟨t418, A150, H⟩ := H
 replace H : ((impl_Count.f k t392 t396).bind fun t419 => (if t418 = t419 then (if t413 = 0 then ((laws_sameStock.f k t410 t392).bind fun t420 => (some t420)) else (some false)) else (some false))) = some r := H
 have A15 := aM A150
 clear A150
 replace H := Option.bind_eq_some_iff.mp H
 obtain ⟨t419, A160, H⟩ := H
 replace H : (if t418 = t419 then (if t413 = 0 then ((laws_sameStock.f k t410 t392).bind fun t420 => (some t420)) else (some false)) else (some false)) = some r := H
 have A16 := aM A160
 clear A160
 by_cases c17 : t418 = t419
 {
 rw [if_pos c17] at H
 have c17b0 := beq_iff_eq.mpr c17
 have c17b1 := bne_eq_false_iff_eq.mpr c17
 clear c17
 by_cases c18 : t413 = 0
 {
 rw [if_pos c18] at H
 have c18b0 := beq_iff_eq.mpr c18
 have c18b1 := bne_eq_false_iff_eq.mpr c18
 clear c18
 replace H := Option.bind_eq_some_iff.mp H
 obtain ⟨t420, A190, H⟩ := H
 replace H : (some t420) = some r := H
 have A19 := aM A190
 clear A190
 obtain rfl := Option.some.inj H
 simp only [Option.some.injEq, Prod.mk.injEq] at H
 obtain ⟨rfl⟩ := H
 go_enter Try.func3, Try.ntmps3
 try go_wp2_with (first | ((with_reducible refine gate_callee (f := 15) rfl ?_); refine goesL_ (some 14) rfl rfl Try.func15 (by kernel_rfl) rfl #[.slice A0 l0.length c0] rfl qz1 ?_; (with_reducible refine (laws_big.calls _ _ l0 false _ ?side1 ?side2 A2.out).mono ?_); (case side1 => exact qz73); (case side2 => exact HC0.out); rintro e w' ⟨rfl, ⟨nd, rfl⟩⟩; refine ⟨_, rfl, ?_⟩) | ((with_reducible refine gate_callee (f := 16) rfl ?_); refine goesL_ (some 17) rfl rfl Try.func16 (by kernel_rfl) rfl #[.slice A0 l0.length c0] rfl qz1 ?_; (with_reducible refine (spec_DrawHold.calls k _ _ l0 t392 t395 t396 t397 _ ?side1 ?side2 A4.out).mono ?_); (case side1 => exact qz73); (case side2 => exact HC0.out); rintro e w20 ⟨v393, rfl, ho0, hb⟩; refine ⟨_, rfl, ?_⟩; have n0_ := aM (Kd.N_lower (Kd.N_mono (ok' := fun k_ => True) ho0 (fun k_ hk_ => trivial)) (below_size qz2)); have n1_ := aM (below_step qz2 hb); clear HB; have HO394 := n0_; have HB := n1_; clear n0_ n1_; (try clear hb); (try clear hb2); (try clear hk); (try clear hi); (try clear ho0)) | ((with_reducible refine gate_dst (N := 3) rfl ?_); refine bx_ 3 #[.slice none 0 0] 26 ?_; intro gb398 hg w21 hbox hb; have n0_ := aM (Kd.N_below (Kd.N_elderB qz45 gb398 (Nat.le_of_eq hg.symm)) hb); have n1_ := aM (below_step qz2 hb); have n2_ := aM (hbox); have n3_ := aM ((by rw [hg]; exact (below_size qz2) : w.heap.size ≤ gb398)); have n4_ := aM ((by rw [hg]; exact (below_size qz2) : w.heap.size ≤ gb398)); clear HO394 HB; have HO394 := n0_; have HB := n1_; have BK398 := n2_; have GW398 := n3_; have GE398 := n4_; clear n0_ n1_ n2_ n3_ n4_; clear hb hbox hg; obtain ⟨Ao22, co22, eo22⟩ := Kd.N_slice HO394.out; subst eo22; have hcz23_0 := bc0_ BK398.out; have hfz23_0 := blk_frozen BK398.out 0) | ((with_reducible refine gate_callee (f := 17) rfl ?_); refine goesL_ (some 27) rfl rfl Try.func17 (by kernel_rfl) rfl #[.agg #[.slice Ao22 t392.length co22], .int .i64 t395, .int .i64 t396, .int .i64 t397] rfl qz1 ?_; (with_reducible refine (impl_Hold.calls k _ _ t392 t395 t396 t397 t399 t402 _ ?side1 ?side2 A5.out).mono ?_); (case side1 => refine (Kd.N_reads' (e := 79) (base := w.heap.size) (ok := fun k_ => (True ∧ k_ ≠ gb398)) (n := t392.length) (c := co22) ?_).2.2; exact (by (with_reducible repeat (first | apply Kd.N_alloc | apply Kd.N_drewN | apply Kd.N_drew)); exact (Kd.N_mono (Kd.N_far (p := ⟨gb398, 0, none⟩) (Kd.N_mono HO394.out (fun k_ hk => (⟨hk, hk.2⟩ : _ ∧ k_ ≠ gb398))) (fun _ hk => hk.2) (.slice Ao22 t392.length co22)) (fun _ h_ => h_.1)))); (case side2 => exact (Kd.N_reads' HO394.out).2.1); rintro e w24 ⟨v400, rfl, ho0, hb⟩; refine ⟨_, rfl, ?_⟩; have n0_ := aM (Kd.N_elder' (by (with_reducible repeat (first | apply Kd.N_alloc | apply Kd.N_drewN | apply Kd.N_drew)); exact (Kd.N_mono (Kd.N_far (p := ⟨gb398, 0, none⟩) (Kd.N_mono HO394.out (fun k_ hk => (⟨hk, hk.2⟩ : _ ∧ k_ ≠ gb398))) (fun _ hk => hk.2) (.slice Ao22 t392.length co22)) (fun _ h_ => h_.1))) (Kd.S_base ho0) hb); have n1_ := aM (Kd.N_lower (Kd.N_mono (ok' := fun k_ => some k_ ≠ (.slice Ao22 t392.length co22 : Value).ownBlock ∧ k_ ≠ gb398) (Kd.S_N (Kd.S_bound ho0)) (fun k_ hk_ => ⟨(Kd.fresh' (Kd.N_lt (by (with_reducible repeat (first | apply Kd.N_alloc | apply Kd.N_drewN | apply Kd.N_drew)); exact (Kd.N_mono (Kd.N_far (p := ⟨gb398, 0, none⟩) (Kd.N_mono HO394.out (fun k_ hk => (⟨hk, hk.2⟩ : _ ∧ k_ ≠ gb398))) (fun _ hk => hk.2) (.slice Ao22 t392.length co22)) (fun _ h_ => h_.1)))) k_ hk_.2.1), (Kd.freshB (g := gb398) (o := .cells #[.slice Ao22 t392.length co22] 26 (0, 0)) (by (with_reducible repeat (first | refine blk_drewN ?_ _ | refine blk_drew ?_ | refine blk_alloc ?_ _)); refine blk_put (cs := #[.slice none 0 0]) ?_ 0 _ rfl; exact bk_ BK398.out) k_ hk_.2.1)⟩)) (below_size qz38)); have n2_ := aM (blk_below (g := gb398) (o := .cells #[.slice Ao22 t392.length co22] 26 (0, 0)) (by (with_reducible repeat (first | refine blk_drewN ?_ _ | refine blk_drew ?_ | refine blk_alloc ?_ _)); refine blk_put (cs := #[.slice none 0 0]) ?_ 0 _ rfl; exact bk_ BK398.out) hb); have n3_ := aM (below_step qz38 hb); clear HO394 BK398 HB; have HO394 := n0_; have HO401 := n1_; have BK398 := n2_; have HB := n3_; clear n0_ n1_ n2_ n3_; (try clear hb); (try clear hb2); (try clear hk); (try clear hi); (try clear ho0)) | ((with_reducible refine gate_dst (N := 7) rfl ?_); refine bx_ 7 #[.slice none 0 0] 26 ?_; intro gb403 hg w25 hbox hb; have n0_ := aM (Kd.N_below (Kd.N_elderB qz45 gb403 (Nat.le_of_eq hg.symm)) hb); have n1_ := aM (Kd.N_below (Kd.N_elderB qz51 gb403 (Nat.le_of_eq hg.symm)) hb); have n2_ := aM (blk_below (bk_ BK398.out) hb); have n3_ := aM (below_step qz38 hb); have n4_ := aM (hbox); have n5_ := aM ((by rw [hg]; exact (below_size qz38) : w.heap.size ≤ gb403)); have n6_ := aM ((by rw [hg]; exact (below_size qz38) : w.heap.size ≤ gb403)); have n7_ := aM ((by rw [hg]; exact Nat.ne_of_lt (blk_lt (bk_ BK398.out)) : gb398 ≠ gb403)); have n8_ := aM ((by rw [hg]; exact Nat.ne_of_gt (blk_lt (bk_ BK398.out)) : gb403 ≠ gb398)); clear HO394 HO401 BK398 HB; have HO394 := n0_; have HO401 := n1_; have BK398 := n2_; have HB := n3_; have BK403 := n4_; have GW403 := n5_; have GE403 := n6_; have NB398_403 := n7_; have NB403_398 := n8_; clear n0_ n1_ n2_ n3_ n4_ n5_ n6_ n7_ n8_; clear hb hbox hg; obtain ⟨Ao26, co26, eo26⟩ := Kd.N_slice HO401.out; subst eo26; have hnb27 := NB403_398.out; have hnc27 := NB398_403.out; have hcz28_0 := bc0_ BK403.out; have hfz28_0 := blk_frozen BK403.out 0; have hcz29_0 := bc0_ BK398.out; have hfz29_0 := blk_frozen BK398.out 0) | ((with_reducible refine gate_callee (f := 18) rfl ?_); refine goesL_ (some 35) rfl rfl Try.func18 (by kernel_rfl) rfl #[.agg #[.slice Ao22 t392.length co22], .int .i64 t395, .int .i64 t396, .int .i64 t397] rfl qz1 ?_; (with_reducible refine (spec_Hold.calls k _ _ t392 t395 t396 t397 t404 t407 _ ?side1 ?side2 A6.out).mono ?_); (case side1 => refine (Kd.N_reads' (e := 79) (base := w.heap.size) (ok := fun k_ => (((True ∧ k_ ≠ gb398) ∧ some k_ ≠ (.slice Ao26 t399.length co26 : Value).ownBlock) ∧ k_ ≠ gb403)) (n := t392.length) (c := co22) ?_).2.2; exact (by (with_reducible repeat (first | apply Kd.N_alloc | apply Kd.N_drewN | apply Kd.N_drew)); exact (Kd.N_mono (Kd.N_far (p := ⟨gb403, 0, none⟩) (Kd.N_mono HO394.out (fun k_ hk => (⟨hk, hk.2⟩ : _ ∧ k_ ≠ gb403))) (fun _ hk => hk.2) (.slice Ao26 t399.length co26)) (fun _ h_ => h_.1)))); (case side2 => exact (Kd.N_reads' HO394.out).2.1); rintro e w30 ⟨v405, rfl, ho0, hb⟩; refine ⟨_, rfl, ?_⟩; have n0_ := aM (Kd.N_elder' (by (with_reducible repeat (first | apply Kd.N_alloc | apply Kd.N_drewN | apply Kd.N_drew)); exact (Kd.N_mono (Kd.N_far (p := ⟨gb403, 0, none⟩) (Kd.N_mono HO394.out (fun k_ hk => (⟨hk, hk.2⟩ : _ ∧ k_ ≠ gb403))) (fun _ hk => hk.2) (.slice Ao26 t399.length co26)) (fun _ h_ => h_.1))) (Kd.S_base ho0) hb); have n1_ := aM (Kd.N_elder' (by (with_reducible repeat (first | apply Kd.N_alloc | apply Kd.N_drewN | apply Kd.N_drew)); exact (Kd.N_mono (Kd.N_far (p := ⟨gb403, 0, none⟩) (Kd.N_mono HO401.out (fun k_ hk => (⟨hk, hk.2⟩ : _ ∧ k_ ≠ gb403))) (fun _ hk => hk.2) (.slice Ao26 t399.length co26)) (fun _ h_ => h_.1))) (Kd.S_base ho0) hb); have n2_ := aM (Kd.N_lower (Kd.N_mono (ok' := fun k_ => some k_ ≠ (.slice Ao22 t392.length co22 : Value).ownBlock ∧ some k_ ≠ (.slice Ao26 t399.length co26 : Value).ownBlock ∧ k_ ≠ gb398 ∧ k_ ≠ gb403) (Kd.S_N (Kd.S_bound ho0)) (fun k_ hk_ => ⟨(Kd.fresh' (Kd.N_lt (by (with_reducible repeat (first | apply Kd.N_alloc | apply Kd.N_drewN | apply Kd.N_drew)); exact (Kd.N_mono (Kd.N_far (p := ⟨gb403, 0, none⟩) (Kd.N_mono HO394.out (fun k_ hk => (⟨hk, hk.2⟩ : _ ∧ k_ ≠ gb403))) (fun _ hk => hk.2) (.slice Ao26 t399.length co26)) (fun _ h_ => h_.1)))) k_ hk_.2.1), (Kd.fresh' (Kd.N_lt (by (with_reducible repeat (first | apply Kd.N_alloc | apply Kd.N_drewN | apply Kd.N_drew)); exact (Kd.N_mono (Kd.N_far (p := ⟨gb403, 0, none⟩) (Kd.N_mono HO401.out (fun k_ hk => (⟨hk, hk.2⟩ : _ ∧ k_ ≠ gb403))) (fun _ hk => hk.2) (.slice Ao26 t399.length co26)) (fun _ h_ => h_.1)))) k_ hk_.2.1), (Kd.freshB (g := gb398) (o := .cells #[.slice Ao22 t392.length co22] 26 (0, 0)) qz76 k_ hk_.2.1), (Kd.freshB (g := gb403) (o := .cells #[.slice Ao26 t399.length co26] 26 (0, 0)) (by (with_reducible repeat (first | refine blk_drewN ?_ _ | refine blk_drew ?_ | refine blk_alloc ?_ _)); refine blk_put (cs := #[.slice none 0 0]) ?_ 0 _ rfl; exact bk_ BK403.out) k_ hk_.2.1)⟩)) (below_size qz29)); have n3_ := aM (blk_below (g := gb398) (o := .cells #[.slice Ao22 t392.length co22] 26 (0, 0)) qz76 hb); have n4_ := aM (blk_below (g := gb403) (o := .cells #[.slice Ao26 t399.length co26] 26 (0, 0)) (by (with_reducible repeat (first | refine blk_drewN ?_ _ | refine blk_drew ?_ | refine blk_alloc ?_ _)); refine blk_put (cs := #[.slice none 0 0]) ?_ 0 _ rfl; exact bk_ BK403.out) hb); have n5_ := aM (below_step qz29 hb); clear HO394 HO401 BK398 BK403 HB; have HO394 := n0_; have HO401 := n1_; have HO406 := n2_; have BK398 := n3_; have BK403 := n4_; have HB := n5_; clear n0_ n1_ n2_ n3_ n4_ n5_; (try clear hb); (try clear hb2); (try clear hk); (try clear hi); (try clear ho0)) | ((with_reducible refine gate_dst (N := 9) rfl ?_); refine bx_ 9 #[.slice none 0 0] 26 ?_; intro gb408 hg w31 hbox hb; have n0_ := aM (Kd.N_below (Kd.N_elderB qz45 gb408 (Nat.le_of_eq hg.symm)) hb); have n1_ := aM (Kd.N_below (Kd.N_elderB qz51 gb408 (Nat.le_of_eq hg.symm)) hb); have n2_ := aM (Kd.N_below (Kd.N_elderB qz62 gb408 (Nat.le_of_eq hg.symm)) hb); have n3_ := aM (blk_below (bk_ BK398.out) hb); have n4_ := aM (blk_below (bk_ BK403.out) hb); have n5_ := aM (below_step qz29 hb); have n6_ := aM (hbox); have n7_ := aM ((by rw [hg]; exact (below_size qz29) : w.heap.size ≤ gb408)); have n8_ := aM ((by rw [hg]; exact (below_size qz29) : w.heap.size ≤ gb408)); have n9_ := aM ((by rw [hg]; exact Nat.ne_of_lt (blk_lt (bk_ BK398.out)) : gb398 ≠ gb408)); have n10_ := aM ((by rw [hg]; exact Nat.ne_of_gt (blk_lt (bk_ BK398.out)) : gb408 ≠ gb398)); have n11_ := aM ((by rw [hg]; exact Nat.ne_of_lt (blk_lt (bk_ BK403.out)) : gb403 ≠ gb408)); have n12_ := aM ((by rw [hg]; exact Nat.ne_of_gt (blk_lt (bk_ BK403.out)) : gb408 ≠ gb403)); clear HO394 HO401 HO406 BK398 BK403 HB; have HO394 := n0_; have HO401 := n1_; have HO406 := n2_; have BK398 := n3_; have BK403 := n4_; have HB := n5_; have BK408 := n6_; have GW408 := n7_; have GE408 := n8_; have NB398_408 := n9_; have NB408_398 := n10_; have NB403_408 := n11_; have NB408_403 := n12_; clear n0_ n1_ n2_ n3_ n4_ n5_ n6_ n7_ n8_ n9_ n10_ n11_ n12_; clear hb hbox hg; obtain ⟨Ao32, co32, eo32⟩ := Kd.N_slice HO406.out; subst eo32; have hnb33 := NB408_398.out; have hnc33 := NB398_408.out; have hnb34 := NB408_403.out; have hnc34 := NB403_408.out; have hcz35_0 := bc0_ BK408.out; have hfz35_0 := blk_frozen BK408.out 0; have hcz36_0 := bc0_ BK403.out; have hfz36_0 := blk_frozen BK403.out 0) | ((with_reducible refine gate_callee (f := 20) rfl ?_); refine goesL_ (some 51) rfl rfl Try.func20 (by kernel_rfl) rfl #[.agg #[.slice Ao26 t399.length co26], .int .i64 t395, .int .i64 t396, .int .i64 t397] rfl qz1 ?_; (with_reducible refine (impl_Release.calls k _ _ t399 t395 t396 t397 t410 t413 _ ?side1 ?side2 A9.out).mono ?_); (case side1 => refine (Kd.N_reads' (e := 79) (base := w.heap.size) (ok := fun k_ => ((((some k_ ≠ (.slice Ao22 t392.length co22 : Value).ownBlock ∧ k_ ≠ gb398) ∧ k_ ≠ gb403) ∧ some k_ ≠ (.slice Ao32 t404.length co32 : Value).ownBlock) ∧ k_ ≠ gb408)) (n := t399.length) (c := co26) ?_).2.2; exact (by (with_reducible repeat (first | apply Kd.N_alloc | apply Kd.N_drewN | apply Kd.N_drew)); exact (Kd.N_mono (Kd.N_far (p := ⟨gb408, 0, none⟩) (Kd.N_mono HO401.out (fun k_ hk => (⟨hk, hk.2⟩ : _ ∧ k_ ≠ gb408))) (fun _ hk => hk.2) (.slice Ao32 t404.length co32)) (fun _ h_ => h_.1)))); (case side2 => exact (Kd.N_reads' HO401.out).2.1); rintro e w37 ⟨v411, rfl, ho0, hb⟩; refine ⟨_, rfl, ?_⟩; have n0_ := aM (Kd.N_elder' (by (with_reducible repeat (first | apply Kd.N_alloc | apply Kd.N_drewN | apply Kd.N_drew)); exact (Kd.N_mono (Kd.N_far (p := ⟨gb408, 0, none⟩) (Kd.N_mono HO394.out (fun k_ hk => (⟨hk, hk.2⟩ : _ ∧ k_ ≠ gb408))) (fun _ hk => hk.2) (.slice Ao32 t404.length co32)) (fun _ h_ => h_.1))) (Kd.S_base ho0) hb); have n1_ := aM (Kd.N_elder' (by (with_reducible repeat (first | apply Kd.N_alloc | apply Kd.N_drewN | apply Kd.N_drew)); exact (Kd.N_mono (Kd.N_far (p := ⟨gb408, 0, none⟩) (Kd.N_mono HO401.out (fun k_ hk => (⟨hk, hk.2⟩ : _ ∧ k_ ≠ gb408))) (fun _ hk => hk.2) (.slice Ao32 t404.length co32)) (fun _ h_ => h_.1))) (Kd.S_base ho0) hb); have n2_ := aM (Kd.N_elder' (by (with_reducible repeat (first | apply Kd.N_alloc | apply Kd.N_drewN | apply Kd.N_drew)); exact (Kd.N_mono (Kd.N_far (p := ⟨gb408, 0, none⟩) (Kd.N_mono HO406.out (fun k_ hk => (⟨hk, hk.2⟩ : _ ∧ k_ ≠ gb408))) (fun _ hk => hk.2) (.slice Ao32 t404.length co32)) (fun _ h_ => h_.1))) (Kd.S_base ho0) hb); have n3_ := aM (Kd.N_lower (Kd.N_mono (ok' := fun k_ => some k_ ≠ (.slice Ao22 t392.length co22 : Value).ownBlock ∧ some k_ ≠ (.slice Ao26 t399.length co26 : Value).ownBlock ∧ some k_ ≠ (.slice Ao32 t404.length co32 : Value).ownBlock ∧ k_ ≠ gb398 ∧ k_ ≠ gb403 ∧ k_ ≠ gb408) (Kd.S_N (Kd.S_bound ho0)) (fun k_ hk_ => ⟨(Kd.fresh' (Kd.N_lt (by (with_reducible repeat (first | apply Kd.N_alloc | apply Kd.N_drewN | apply Kd.N_drew)); exact (Kd.N_mono (Kd.N_far (p := ⟨gb408, 0, none⟩) (Kd.N_mono HO394.out (fun k_ hk => (⟨hk, hk.2⟩ : _ ∧ k_ ≠ gb408))) (fun _ hk => hk.2) (.slice Ao32 t404.length co32)) (fun _ h_ => h_.1)))) k_ hk_.2.1), (Kd.fresh' (Kd.N_lt (by (with_reducible repeat (first | apply Kd.N_alloc | apply Kd.N_drewN | apply Kd.N_drew)); exact (Kd.N_mono (Kd.N_far (p := ⟨gb408, 0, none⟩) (Kd.N_mono HO401.out (fun k_ hk => (⟨hk, hk.2⟩ : _ ∧ k_ ≠ gb408))) (fun _ hk => hk.2) (.slice Ao32 t404.length co32)) (fun _ h_ => h_.1)))) k_ hk_.2.1), (Kd.fresh' (Kd.N_lt (by (with_reducible repeat (first | apply Kd.N_alloc | apply Kd.N_drewN | apply Kd.N_drew)); exact (Kd.N_mono (Kd.N_far (p := ⟨gb408, 0, none⟩) (Kd.N_mono HO406.out (fun k_ hk => (⟨hk, hk.2⟩ : _ ∧ k_ ≠ gb408))) (fun _ hk => hk.2) (.slice Ao32 t404.length co32)) (fun _ h_ => h_.1)))) k_ hk_.2.1), (Kd.freshB (g := gb398) (o := .cells #[.slice Ao22 t392.length co22] 26 (0, 0)) qz104 k_ hk_.2.1), (Kd.freshB (g := gb403) (o := .cells #[.slice Ao26 t399.length co26] 26 (0, 0)) qz105 k_ hk_.2.1), (Kd.freshB (g := gb408) (o := .cells #[.slice Ao32 t404.length co32] 26 (0, 0)) (by (with_reducible repeat (first | refine blk_drewN ?_ _ | refine blk_drew ?_ | refine blk_alloc ?_ _)); refine blk_put (cs := #[.slice none 0 0]) ?_ 0 _ rfl; exact bk_ BK408.out) k_ hk_.2.1)⟩)) (below_size qz49)); have n4_ := aM (blk_below (g := gb398) (o := .cells #[.slice Ao22 t392.length co22] 26 (0, 0)) qz104 hb); have n5_ := aM (blk_below (g := gb403) (o := .cells #[.slice Ao26 t399.length co26] 26 (0, 0)) qz105 hb); have n6_ := aM (blk_below (g := gb408) (o := .cells #[.slice Ao32 t404.length co32] 26 (0, 0)) (by (with_reducible repeat (first | refine blk_drewN ?_ _ | refine blk_drew ?_ | refine blk_alloc ?_ _)); refine blk_put (cs := #[.slice none 0 0]) ?_ 0 _ rfl; exact bk_ BK408.out) hb); have n7_ := aM (below_step qz49 hb); clear HO394 HO401 HO406 BK398 BK403 BK408 HB; have HO394 := n0_; have HO401 := n1_; have HO406 := n2_; have HO412 := n3_; have BK398 := n4_; have BK403 := n5_; have BK408 := n6_; have HB := n7_; clear n0_ n1_ n2_ n3_ n4_ n5_ n6_ n7_; (try clear hb); (try clear hb2); (try clear hk); (try clear hi); (try clear ho0)) | ((with_reducible refine gate_dst (N := 11) rfl ?_); refine bx_ 11 #[.slice none 0 0] 26 ?_; intro gb414 hg w38 hbox hb; have n0_ := aM (Kd.N_below (Kd.N_elderB qz45 gb414 (Nat.le_of_eq hg.symm)) hb); have n1_ := aM (Kd.N_below (Kd.N_elderB qz51 gb414 (Nat.le_of_eq hg.symm)) hb); have n2_ := aM (Kd.N_below (Kd.N_elderB qz62 gb414 (Nat.le_of_eq hg.symm)) hb); have n3_ := aM (Kd.N_below (Kd.N_elderB qz70 gb414 (Nat.le_of_eq hg.symm)) hb); have n4_ := aM (blk_below (bk_ BK398.out) hb); have n5_ := aM (blk_below (bk_ BK403.out) hb); have n6_ := aM (blk_below (bk_ BK408.out) hb); have n7_ := aM (below_step qz49 hb); have n8_ := aM (hbox); have n9_ := aM ((by rw [hg]; exact (below_size qz49) : w.heap.size ≤ gb414)); have n10_ := aM ((by rw [hg]; exact (below_size qz49) : w.heap.size ≤ gb414)); have n11_ := aM ((by rw [hg]; exact Nat.ne_of_lt (blk_lt (bk_ BK398.out)) : gb398 ≠ gb414)); have n12_ := aM ((by rw [hg]; exact Nat.ne_of_gt (blk_lt (bk_ BK398.out)) : gb414 ≠ gb398)); have n13_ := aM ((by rw [hg]; exact Nat.ne_of_lt (blk_lt (bk_ BK403.out)) : gb403 ≠ gb414)); have n14_ := aM ((by rw [hg]; exact Nat.ne_of_gt (blk_lt (bk_ BK403.out)) : gb414 ≠ gb403)); have n15_ := aM ((by rw [hg]; exact Nat.ne_of_lt (blk_lt (bk_ BK408.out)) : gb408 ≠ gb414)); have n16_ := aM ((by rw [hg]; exact Nat.ne_of_gt (blk_lt (bk_ BK408.out)) : gb414 ≠ gb408)); clear HO394 HO401 HO406 HO412 BK398 BK403 BK408 HB; have HO394 := n0_; have HO401 := n1_; have HO406 := n2_; have HO412 := n3_; have BK398 := n4_; have BK403 := n5_; have BK408 := n6_; have HB := n7_; have BK414 := n8_; have GW414 := n9_; have GE414 := n10_; have NB398_414 := n11_; have NB414_398 := n12_; have NB403_414 := n13_; have NB414_403 := n14_; have NB408_414 := n15_; have NB414_408 := n16_; clear n0_ n1_ n2_ n3_ n4_ n5_ n6_ n7_ n8_ n9_ n10_ n11_ n12_ n13_ n14_ n15_ n16_; clear hb hbox hg; obtain ⟨Ao39, co39, eo39⟩ := Kd.N_slice HO412.out; subst eo39; have hnb40 := NB414_398.out; have hnc40 := NB398_414.out; have hnb41 := NB414_403.out; have hnc41 := NB403_414.out; have hnb42 := NB414_408.out; have hnc42 := NB408_414.out; have hcz43_0 := bc0_ BK414.out; have hfz43_0 := blk_frozen BK414.out 0))
 generalize hq_ : (w38.setCell ⟨gb414, 0, none⟩ (.slice Ao39 t410.length co39)) = w44
 have n0_ : Aside0 (Kd.N k79 79 w44 w.heap.size (fun k_ => some k_ ≠ (.slice Ao26 t399.length co26 : Value).ownBlock ∧ some k_ ≠ (.slice Ao32 t404.length co32 : Value).ownBlock ∧ some k_ ≠ (.slice Ao39 t410.length co39 : Value).ownBlock ∧ k_ ≠ gb398 ∧ k_ ≠ gb403 ∧ k_ ≠ gb408 ∧ k_ ≠ gb414) (.slice Ao22 t392.length co22) t392) := ⟨by rw [← hq_]; exact (by (with_reducible repeat (first | apply Kd.N_alloc | apply Kd.N_drewN | apply Kd.N_drew)); exact Kd.N_mono (Kd.N_far (p := ⟨gb414, 0, none⟩) (Kd.N_mono HO394.out (fun k_ hk => (⟨hk, hk.2⟩ : _ ∧ k_ ≠ gb414))) (fun _ hk => hk.2) (.slice Ao39 t410.length co39)) (fun _ hk => ⟨hk.1.1.1.1.1.1.2, ⟨hk.1.1.1.1.2, ⟨hk.1.1.2, ⟨hk.1.1.1.1.1.1.1.2, ⟨hk.1.1.1.1.1.2, ⟨hk.1.1.1.2, hk.1.2⟩⟩⟩⟩⟩⟩))⟩
 have n1_ : Aside0 (Kd.N k79 79 w44 w.heap.size (fun k_ => some k_ ≠ (.slice Ao22 t392.length co22 : Value).ownBlock ∧ some k_ ≠ (.slice Ao32 t404.length co32 : Value).ownBlock ∧ some k_ ≠ (.slice Ao39 t410.length co39 : Value).ownBlock ∧ k_ ≠ gb398 ∧ k_ ≠ gb403 ∧ k_ ≠ gb408 ∧ k_ ≠ gb414) (.slice Ao26 t399.length co26) t399) := ⟨by rw [← hq_]; exact (by (with_reducible repeat (first | apply Kd.N_alloc | apply Kd.N_drewN | apply Kd.N_drew)); exact Kd.N_mono (Kd.N_far (p := ⟨gb414, 0, none⟩) (Kd.N_mono HO401.out (fun k_ hk => (⟨hk, hk.2⟩ : _ ∧ k_ ≠ gb414))) (fun _ hk => hk.2) (.slice Ao39 t410.length co39)) (fun _ hk => ⟨hk.1.1.1.1.1.1.1, ⟨hk.1.1.1.1.2, ⟨hk.1.1.2, ⟨hk.1.1.1.1.1.1.2, ⟨hk.1.1.1.1.1.2, ⟨hk.1.1.1.2, hk.1.2⟩⟩⟩⟩⟩⟩))⟩
 have n2_ : Aside0 (Kd.N k79 79 w44 w.heap.size (fun k_ => some k_ ≠ (.slice Ao22 t392.length co22 : Value).ownBlock ∧ some k_ ≠ (.slice Ao26 t399.length co26 : Value).ownBlock ∧ some k_ ≠ (.slice Ao39 t410.length co39 : Value).ownBlock ∧ k_ ≠ gb398 ∧ k_ ≠ gb403 ∧ k_ ≠ gb408 ∧ k_ ≠ gb414) (.slice Ao32 t404.length co32) t404) := ⟨by rw [← hq_]; exact (by (with_reducible repeat (first | apply Kd.N_alloc | apply Kd.N_drewN | apply Kd.N_drew)); exact Kd.N_mono (Kd.N_far (p := ⟨gb414, 0, none⟩) (Kd.N_mono HO406.out (fun k_ hk => (⟨hk, hk.2⟩ : _ ∧ k_ ≠ gb414))) (fun _ hk => hk.2) (.slice Ao39 t410.length co39)) (fun _ hk => ⟨hk.1.1.1.1.1, ⟨hk.1.1.1.1.2.1, ⟨hk.1.1.2, ⟨hk.1.1.1.1.2.2.1, ⟨hk.1.1.1.1.2.2.2, ⟨hk.1.1.1.2, hk.1.2⟩⟩⟩⟩⟩⟩))⟩
 have n3_ : Aside0 (Kd.N k79 79 w44 w.heap.size (fun k_ => some k_ ≠ (.slice Ao22 t392.length co22 : Value).ownBlock ∧ some k_ ≠ (.slice Ao26 t399.length co26 : Value).ownBlock ∧ some k_ ≠ (.slice Ao32 t404.length co32 : Value).ownBlock ∧ k_ ≠ gb398 ∧ k_ ≠ gb403 ∧ k_ ≠ gb408 ∧ k_ ≠ gb414) (.slice Ao39 t410.length co39) t410) := ⟨by rw [← hq_]; exact (by (with_reducible repeat (first | apply Kd.N_alloc | apply Kd.N_drewN | apply Kd.N_drew)); exact Kd.N_mono (Kd.N_far (p := ⟨gb414, 0, none⟩) (Kd.N_mono HO412.out (fun k_ hk => (⟨hk, hk.2⟩ : _ ∧ k_ ≠ gb414))) (fun _ hk => hk.2) (.slice Ao39 t410.length co39)) (fun _ hk => ⟨hk.1.1.1, ⟨hk.1.1.2.1, ⟨hk.1.1.2.2.1, ⟨hk.1.1.2.2.2.1, ⟨hk.1.1.2.2.2.2.1, ⟨hk.1.1.2.2.2.2.2, hk.1.2⟩⟩⟩⟩⟩⟩))⟩
 have n4_ : Aside0 (w44.heap[gb398]? = some (.cells #[.slice Ao22 t392.length co22] 26 (0, 0))) := ⟨by rw [← hq_]; exact (by (with_reducible repeat (first | refine blk_drewN ?_ _ | refine blk_drew ?_ | refine blk_alloc ?_ _)); refine blk_far ?_ NB398_414.out _; exact bk_ BK398.out)⟩
 have n5_ : Aside0 (w44.heap[gb403]? = some (.cells #[.slice Ao26 t399.length co26] 26 (0, 0))) := ⟨by rw [← hq_]; exact (by (with_reducible repeat (first | refine blk_drewN ?_ _ | refine blk_drew ?_ | refine blk_alloc ?_ _)); refine blk_far ?_ NB403_414.out _; exact bk_ BK403.out)⟩
 have n6_ : Aside0 (w44.heap[gb408]? = some (.cells #[.slice Ao32 t404.length co32] 26 (0, 0))) := ⟨by rw [← hq_]; exact (by (with_reducible repeat (first | refine blk_drewN ?_ _ | refine blk_drew ?_ | refine blk_alloc ?_ _)); refine blk_far ?_ NB408_414.out _; exact bk_ BK408.out)⟩
 have n7_ : Aside0 (w44.heap[gb414]? = some (.cells #[.slice Ao39 t410.length co39] 26 (0, 0))) := ⟨by rw [← hq_]; exact (by (with_reducible repeat (first | refine blk_drewN ?_ _ | refine blk_drew ?_ | refine blk_alloc ?_ _)); refine blk_put (cs := #[.slice none 0 0]) ?_ 0 _ rfl; exact bk_ BK414.out)⟩
 have n8_ : Aside0 (Below w.heap.size w w44) := ⟨by rw [← hq_]; exact qz34⟩
 (try clear HO394)
 (try clear HO401)
 (try clear HO406)
 (try clear HO412)
 (try clear BK398)
 (try clear BK403)
 (try clear BK408)
 (try clear BK414)
 (try clear HB)
 clear hq_
 have HO394 := n0_
 have HO401 := n1_
 have HO406 := n2_
 have HO412 := n3_
 have BK398 := n4_
 have BK403 := n5_
 have BK408 := n6_
 have BK414 := n7_
 have HB := n8_
 clear n0_ n1_ n2_ n3_ n4_ n5_ n6_ n7_ n8_
 have n0_ := aM (Kd.N_drew HO394.out)
 have n1_ := aM (Kd.N_drew HO401.out)
 have n2_ := aM (Kd.N_drew HO406.out)
 have n3_ := aM (Kd.N_drew HO412.out)
 have n4_ := aM (blk_drew BK398.out)
 have n5_ := aM (blk_drew BK403.out)
 have n6_ := aM (blk_drew BK408.out)
 have n7_ := aM (blk_drew BK414.out)
 have n8_ := aM (below_drew1 HB.out)
 clear HO394
 clear HO401
 clear HO406
 clear HO412
 clear BK398
 clear BK403
 clear BK408
 clear BK414
 clear HB
 have HO394 := n0_
 have HO401 := n1_
 have HO406 := n2_
 have HO412 := n3_
 have BK398 := n4_
 have BK403 := n5_
 have BK408 := n6_
 have BK414 := n7_
 have HB := n8_
 clear n0_ n1_ n2_ n3_ n4_ n5_ n6_ n7_ n8_
 refine start_ (n := 32) (S := fun w' => w'.cell? ⟨gb403, 0, none⟩ = some (.slice Ao26 t399.length co26) ∧ w'.cell? ⟨gb398, 0, none⟩ = some (.slice Ao22 t392.length co22) ∧ w'.cell? ⟨gb414, 0, none⟩ = some (.slice Ao39 t410.length co39)) (ds := []) #[false, false, false, false, false, false, false, false, false, false, false, false, false, false, false, false, false, false, false, false, false, false, false, false, false, false, false, false, false, false, false, false] (by kernel_rfl) rfl rfl ⟨(blk_cell BK403.out 0).trans rfl, (blk_cell BK398.out 0).trans rfl, (blk_cell BK414.out 0).trans rfl⟩ (fun hHeld => ?_); refine with_tabW laws_FnHeld.tab11 laws_FnHeld.bits11 (fun HT_ HW_ => ?_)
 generalize w44.drew = w45 at HO394 HO401 HO406 HO412 BK398 BK403 BK408 BK414 HB hHeld ⊢
 refine tI3_ 0 54 (bqz 32 1) ?_
 refine one_ (i := 1) (N := some 55) (bqz 32 3) rfl rfl qzc (by decide) (fun K hK => ?_)
 refine goes_ Try.func21 (by kernel_rfl) rfl #[.agg #[.slice Ao26 t399.length co26]] (by rfl) rfl rfl qz1 ?_
 with_reducible refine (impl_StockOk.calls k _ _ t399 true _ ?side1 ?side2 A10.out).mono ?_
 (case side1 => exact qz102)
 (case side2 => exact (Kd.N_reads' HO401.out).2.1)
 rintro e w46 ⟨rfl, hb⟩
 refine ⟨_, rfl, ?_⟩
 have n0_ := aM (Kd.N_below qz45 hb)
 have n1_ := aM (Kd.N_below qz51 hb)
 have n2_ := aM (Kd.N_below qz62 hb)
 have n3_ := aM (Kd.N_below qz70 hb)
 have n4_ := aM (blk_below (bk_ BK398.out) hb)
 have n5_ := aM (blk_below (bk_ BK403.out) hb)
 have n6_ := aM (blk_below (bk_ BK408.out) hb)
 have n7_ := aM (blk_below (bk_ BK414.out) hb)
 have n8_ := aM (below_step qz34 hb)
 clear HO394
 clear HO401
 clear HO406
 clear HO412
 clear BK398
 clear BK403
 clear BK408
 clear BK414
 clear HB
 have HO394 := n0_
 have HO401 := n1_
 have HO406 := n2_
 have HO412 := n3_
 have BK398 := n4_
 have BK403 := n5_
 have BK408 := n6_
 have BK414 := n7_
 have HB := n8_
 clear n0_ n1_ n2_ n3_ n4_ n5_ n6_ n7_ n8_
 (try clear hb)
 (try clear hb2)
 (try clear hk)
 (try clear hi)
 refine hK.out _ _ ⟨(blk_cell BK403.out 0).trans rfl, (blk_cell BK398.out 0).trans rfl, (blk_cell BK414.out 0).trans rfl⟩ (fun hHeld => ?_)
 clear hK K
 refine norm_ (a' := ?_) ?_ ?_
 rotate_left
 {
 show Act.put _ (some 55) _ = _
 simp only [qzs]
 rfl
 }
 refine pI_ 2 56 (bqz 32 7) ?_
 refine pI_ 4 58 (bqz 32 23) ?_
 refine pI_ 7 61 (bqz 32 151) ?_
 refine pI_ 9 63 (bqz 32 663) ?_
 refine tI3_ 3 57 (bqz 32 671) ?_
 refine tI3_ 6 60 (bqz 32 735) ?_
 refine one_ (i := 5) (N := some 59) (bqz 32 767) rfl rfl qzc (by decide) (fun K hK => ?_)
 refine goes_ Try.func22 (by kernel_rfl) rfl #[.agg #[.slice Ao26 t399.length co26], .int .i64 t396] (by rfl) rfl rfl qz1 ?_
 with_reducible refine (impl_Free.calls k _ _ t399 t396 t416 _ ?side1 ?side2 A12.out).mono ?_
 (case side1 => exact qz102)
 (case side2 => exact (Kd.N_reads' HO401.out).2.1)
 rintro e w47 ⟨rfl, hb⟩
 refine ⟨_, rfl, ?_⟩
 have n0_ := aM (Kd.N_below qz45 hb)
 have n1_ := aM (Kd.N_below qz51 hb)
 have n2_ := aM (Kd.N_below qz62 hb)
 have n3_ := aM (Kd.N_below qz70 hb)
 have n4_ := aM (blk_below (bk_ BK398.out) hb)
 have n5_ := aM (blk_below (bk_ BK403.out) hb)
 have n6_ := aM (blk_below (bk_ BK408.out) hb)
 have n7_ := aM (blk_below (bk_ BK414.out) hb)
 have n8_ := aM (below_step qz34 hb)
 clear HO394
 clear HO401
 clear HO406
 clear HO412
 clear BK398
 clear BK403
 clear BK408
 clear BK414
 clear HB
 have HO394 := n0_
 have HO401 := n1_
 have HO406 := n2_
 have HO412 := n3_
 have BK398 := n4_
 have BK403 := n5_
 have BK408 := n6_
 have BK414 := n7_
 have HB := n8_
 clear n0_ n1_ n2_ n3_ n4_ n5_ n6_ n7_ n8_
 (try clear hb)
 (try clear hb2)
 (try clear hk)
 (try clear hi)
 refine hK.out _ _ ⟨(blk_cell BK403.out 0).trans rfl, (blk_cell BK398.out 0).trans rfl, (blk_cell BK414.out 0).trans rfl⟩ (fun hHeld => ?_)
 clear hK K
 refine norm_ (a' := ?_) ?_ ?_
 rotate_left
 {
 show Act.put _ (some 59) _ = _
 simp only [qzs]
 rfl
 }
 refine one_ (i := 8) (N := some 62) (bqz 32 1023) rfl rfl qzc (by decide) (fun K hK => ?_)
 refine goes_ Try.func22 (by kernel_rfl) rfl #[.agg #[.slice Ao22 t392.length co22], .int .i64 t396] (by rfl) rfl rfl qz1 ?_
 with_reducible refine (impl_Free.calls k _ _ t392 t396 t417 _ ?side1 ?side2 A13.out).mono ?_
 (case side1 => exact qz103)
 (case side2 => exact (Kd.N_reads' HO394.out).2.1)
 rintro e w48 ⟨rfl, hb⟩
 refine ⟨_, rfl, ?_⟩
 have n0_ := aM (Kd.N_below qz45 hb)
 have n1_ := aM (Kd.N_below qz51 hb)
 have n2_ := aM (Kd.N_below qz62 hb)
 have n3_ := aM (Kd.N_below qz70 hb)
 have n4_ := aM (blk_below (bk_ BK398.out) hb)
 have n5_ := aM (blk_below (bk_ BK403.out) hb)
 have n6_ := aM (blk_below (bk_ BK408.out) hb)
 have n7_ := aM (blk_below (bk_ BK414.out) hb)
 have n8_ := aM (below_step qz34 hb)
 clear HO394
 clear HO401
 clear HO406
 clear HO412
 clear BK398
 clear BK403
 clear BK408
 clear BK414
 clear HB
 have HO394 := n0_
 have HO401 := n1_
 have HO406 := n2_
 have HO412 := n3_
 have BK398 := n4_
 have BK403 := n5_
 have BK408 := n6_
 have BK414 := n7_
 have HB := n8_
 clear n0_ n1_ n2_ n3_ n4_ n5_ n6_ n7_ n8_
 (try clear hb)
 (try clear hb2)
 (try clear hk)
 (try clear hi)
 refine hK.out _ _ ⟨(blk_cell BK403.out 0).trans rfl, (blk_cell BK398.out 0).trans rfl, (blk_cell BK414.out 0).trans rfl⟩ (fun hHeld => ?_)
 clear hK K
 refine norm_ (a' := ?_) ?_ ?_
 rotate_left
 {
 show Act.put _ (some 62) _ = _
 simp only [qzs]
 rfl
 }
 refine pI_ 10 64 (bqz 32 2047) ?_
 refine pI_ 11 65 (bqz 32 4095) ?_
 refine pI_ 12 66 (bqz 32 8191) ?_
 refine pI_ 13 67 (bqz 32 16383) ?_
 refine pI_ 15 69 (bqz 32 49151) ?_
 refine pI_ 18 72 (bqz 32 311295) ?_
 refine tI3_ 14 68 (bqz 32 327679) ?_
 refine tI3_ 17 71 (bqz 32 458751) ?_
 refine one_ (i := 16) (N := some 70) (bqz 32 524287) rfl rfl qzc (by decide) (fun K hK => ?_)
 refine goes_ Try.func23 (by kernel_rfl) rfl #[.agg #[.slice Ao26 t399.length co26], .int .i64 t396] (by rfl) rfl rfl qz1 ?_
 with_reducible refine (impl_Count.calls k _ _ t399 t396 t418 _ ?side1 ?side2 A15.out).mono ?_
 (case side1 => exact qz102)
 (case side2 => exact (Kd.N_reads' HO401.out).2.1)
 rintro e w49 ⟨rfl, hb⟩
 refine ⟨_, rfl, ?_⟩
 have n0_ := aM (Kd.N_below qz45 hb)
 have n1_ := aM (Kd.N_below qz51 hb)
 have n2_ := aM (Kd.N_below qz62 hb)
 have n3_ := aM (Kd.N_below qz70 hb)
 have n4_ := aM (blk_below (bk_ BK398.out) hb)
 have n5_ := aM (blk_below (bk_ BK403.out) hb)
 have n6_ := aM (blk_below (bk_ BK408.out) hb)
 have n7_ := aM (blk_below (bk_ BK414.out) hb)
 have n8_ := aM (below_step qz34 hb)
 clear HO394
 clear HO401
 clear HO406
 clear HO412
 clear BK398
 clear BK403
 clear BK408
 clear BK414
 clear HB
 have HO394 := n0_
 have HO401 := n1_
 have HO406 := n2_
 have HO412 := n3_
 have BK398 := n4_
 have BK403 := n5_
 have BK408 := n6_
 have BK414 := n7_
 have HB := n8_
 clear n0_ n1_ n2_ n3_ n4_ n5_ n6_ n7_ n8_
 (try clear hb)
 (try clear hb2)
 (try clear hk)
 (try clear hi)
 refine hK.out _ _ ⟨(blk_cell BK403.out 0).trans rfl, (blk_cell BK398.out 0).trans rfl, (blk_cell BK414.out 0).trans rfl⟩ (fun hHeld => ?_)
 clear hK K
 refine norm_ (a' := ?_) ?_ ?_
 rotate_left
 {
 show Act.put _ (some 70) _ = _
 simp only [qzs]
 rfl
 }
 refine one_ (i := 19) (N := some 73) (bqz 32 1048575) rfl rfl qzc (by decide) (fun K hK => ?_)
 refine goes_ Try.func23 (by kernel_rfl) rfl #[.agg #[.slice Ao22 t392.length co22], .int .i64 t396] (by rfl) rfl rfl qz1 ?_
 with_reducible refine (impl_Count.calls k _ _ t392 t396 t419 _ ?side1 ?side2 A16.out).mono ?_
 (case side1 => exact qz103)
 (case side2 => exact (Kd.N_reads' HO394.out).2.1)
 rintro e w50 ⟨rfl, hb⟩
 refine ⟨_, rfl, ?_⟩
 have n0_ := aM (Kd.N_below qz45 hb)
 have n1_ := aM (Kd.N_below qz51 hb)
 have n2_ := aM (Kd.N_below qz62 hb)
 have n3_ := aM (Kd.N_below qz70 hb)
 have n4_ := aM (blk_below (bk_ BK398.out) hb)
 have n5_ := aM (blk_below (bk_ BK403.out) hb)
 have n6_ := aM (blk_below (bk_ BK408.out) hb)
 have n7_ := aM (blk_below (bk_ BK414.out) hb)
 have n8_ := aM (below_step qz34 hb)
 clear HO394
 clear HO401
 clear HO406
 clear HO412
 clear BK398
 clear BK403
 clear BK408
 clear BK414
 clear HB
 have HO394 := n0_
 have HO401 := n1_
 have HO406 := n2_
 have HO412 := n3_
 have BK398 := n4_
 have BK403 := n5_
 have BK408 := n6_
 have BK414 := n7_
 have HB := n8_
 clear n0_ n1_ n2_ n3_ n4_ n5_ n6_ n7_ n8_
 (try clear hb)
 (try clear hb2)
 (try clear hk)
 (try clear hi)
 refine hK.out _ _ ⟨(blk_cell BK403.out 0).trans rfl, (blk_cell BK398.out 0).trans rfl, (blk_cell BK414.out 0).trans rfl⟩ (fun hHeld => ?_)
 clear hK K
 refine norm_ (a' := ?_) ?_ ?_
 rotate_left
 {
 show Act.put _ (some 73) _ = _
 simp only [qzs]
 rfl
 }
 refine pI_ 20 74 (bqz 32 2097151) ?_
 refine pI_ 21 75 (bqz 32 4194303) ?_
 refine pI_ 22 76 (bqz 32 8388607) ?_
 refine pI_ 23 77 (bqz 32 16777215) ?_
 refine pI_ 24 78 (bqz 32 33554431) ?_
 refine pI_ 25 79 (bqz 32 67108863) ?_
 refine pI_ 26 80 (bqz 32 134217727) ?_
 refine tI3_ 27 81 (bqz 32 268435455) ?_
 refine tI3_ 28 82 (bqz 32 536870911) ?_
 refine one_ (i := 29) (N := some 83) (bqz 32 1073741823) rfl rfl qzc (by decide) (fun K hK => ?_)
 refine goes_ Try.func19 (by kernel_rfl) rfl #[.agg #[.slice Ao39 t410.length co39], .agg #[.slice Ao22 t392.length co22]] (by rfl) rfl rfl qz1 ?_
 with_reducible refine (laws_sameStock.calls k _ _ t410 _ _ t392 t420 _ ?side1 ?side2 ?side3 ?side4 A19.out).mono ?_
 (case side1 => repeat (first | exact (Kd.N_reads' HO412.out).2.2 | (with_reducible refine Kd.C_alloc ?_ _) | (with_reducible refine Kd.C_drewN ?_ _) | (with_reducible refine Kd.C_drew ?_)))
 (case side2 => exact (Kd.N_reads' HO412.out).2.1)
 (case side3 => exact qz103)
 (case side4 => exact (Kd.N_reads' HO394.out).2.1)
 rintro e w51 ⟨rfl, hb⟩
 refine ⟨_, rfl, ?_⟩
 have n0_ := aM (Kd.N_below qz45 hb)
 have n1_ := aM (Kd.N_below qz51 hb)
 have n2_ := aM (Kd.N_below qz62 hb)
 have n3_ := aM (Kd.N_below qz70 hb)
 have n4_ := aM (blk_below (bk_ BK398.out) hb)
 have n5_ := aM (blk_below (bk_ BK403.out) hb)
 have n6_ := aM (blk_below (bk_ BK408.out) hb)
 have n7_ := aM (blk_below (bk_ BK414.out) hb)
 have n8_ := aM (below_step qz34 hb)
 clear HO394
 clear HO401
 clear HO406
 clear HO412
 clear BK398
 clear BK403
 clear BK408
 clear BK414
 clear HB
 have HO394 := n0_
 have HO401 := n1_
 have HO406 := n2_
 have HO412 := n3_
 have BK398 := n4_
 have BK403 := n5_
 have BK408 := n6_
 have BK414 := n7_
 have HB := n8_
 clear n0_ n1_ n2_ n3_ n4_ n5_ n6_ n7_ n8_
 (try clear hb)
 (try clear hb2)
 (try clear hk)
 (try clear hi)
 refine hK.out _ _ ⟨(blk_cell BK403.out 0).trans rfl, (blk_cell BK398.out 0).trans rfl, (blk_cell BK414.out 0).trans rfl⟩ (fun hHeld => ?_)
 clear hK K
 refine norm_ (a' := ?_) ?_ ?_
 rotate_left
 {
 show Act.put _ (some 83) _ = _
 simp only [qzs]
 rfl
 }
 refine pI_ 30 84 (bqz 32 2147483647) ?_
 refine pI_ 31 2 (bqz 32 4294967295) ?_
 refine done_ (done_of HT_.out (by kernel_rfl)) ?_
 try go_wp2
 go_ret
 exact ⟨by first | rfl | (simp [errW_none, errW_some] <;> rfl) | (simp [*, errW_none, errW_some] <;> rfl), by repeat (first | (with_reducible first | exact HB.out | apply below_alloc | apply pw_below_drewN | apply below_drew1 | refine below_set ?_ GE398.out | refine below_set ?_ GE403.out | refine below_set ?_ GE408.out | refine below_set ?_ GE414.out) | exact HB.out)⟩
 }
 {
 rw [if_neg c18] at H
 have c18b0 := beq_eq_false_iff_ne.mpr c18
 have c18b1 := bne_iff_ne.mpr c18
 obtain rfl := Option.some.inj H
 exact absurd HTR_.out (by decide)
 }
 }
 {
 rw [if_neg c17] at H
 have c17b0 := beq_eq_false_iff_ne.mpr c17
 have c17b1 := bne_iff_ne.mpr c17
 obtain rfl := Option.some.inj H
 exact absurd HTR_.out (by decide)
 }
 }
 {
 rw [if_neg c14] at H
 have c14b0 := beq_eq_false_iff_ne.mpr c14
 have c14b1 := bne_iff_ne.mpr c14
 obtain rfl := Option.some.inj H
 exact absurd HTR_.out (by decide)
 }
 }
 {
 replace c11 := Bool.eq_false_iff.mpr c11
 subst c11
 rw [if_neg (show ¬ (false = true) by decide)] at H
 obtain rfl := Option.some.inj H
 exact absurd HTR_.out (by decide)
 }
 }
 {
 rw [if_neg c8] at H
 have c8b0 := beq_eq_false_iff_ne.mpr c8
 have c8b1 := bne_iff_ne.mpr c8
 replace H := Option.bind_eq_some_iff.mp H
 obtain ⟨t409, A520, H⟩ := H
 replace H : (some t409) = some r := H
 have A52 := aM A520
 clear A520
 obtain rfl := Option.some.inj H
 simp only [Option.some.injEq, Prod.mk.injEq] at H
 obtain ⟨rfl⟩ := H
 go_enter Try.func3, Try.ntmps3
 go_wp2_with (first | ((with_reducible refine gate_callee (f := 15) rfl ?_); refine goesL_ (some 14) rfl rfl Try.func15 (by kernel_rfl) rfl #[.slice A0 l0.length c0] rfl qz1 ?_; (with_reducible refine (laws_big.calls _ _ l0 false _ ?side1 ?side2 A2.out).mono ?_); (case side1 => exact qz73); (case side2 => exact HC0.out); rintro e w' ⟨rfl, ⟨nd, rfl⟩⟩; refine ⟨_, rfl, ?_⟩) | ((with_reducible refine gate_callee (f := 16) rfl ?_); refine goesL_ (some 17) rfl rfl Try.func16 (by kernel_rfl) rfl #[.slice A0 l0.length c0] rfl qz1 ?_; (with_reducible refine (spec_DrawHold.calls k _ _ l0 t392 t395 t396 t397 _ ?side1 ?side2 A4.out).mono ?_); (case side1 => exact qz73); (case side2 => exact HC0.out); rintro e w53 ⟨v393, rfl, ho0, hb⟩; refine ⟨_, rfl, ?_⟩; have n0_ := aM (Kd.N_lower (Kd.N_mono (ok' := fun k_ => True) ho0 (fun k_ hk_ => trivial)) (below_size qz2)); have n1_ := aM (below_step qz2 hb); clear HB; have HO394 := n0_; have HB := n1_; clear n0_ n1_; (try clear hb); (try clear hb2); (try clear hk); (try clear hi); (try clear ho0)) | ((with_reducible refine gate_dst (N := 3) rfl ?_); refine bx_ 3 #[.slice none 0 0] 26 ?_; intro gb398 hg w54 hbox hb; have n0_ := aM (Kd.N_below (Kd.N_elderB qz45 gb398 (Nat.le_of_eq hg.symm)) hb); have n1_ := aM (below_step qz2 hb); have n2_ := aM (hbox); have n3_ := aM ((by rw [hg]; exact (below_size qz2) : w.heap.size ≤ gb398)); have n4_ := aM ((by rw [hg]; exact (below_size qz2) : w.heap.size ≤ gb398)); clear HO394 HB; have HO394 := n0_; have HB := n1_; have BK398 := n2_; have GW398 := n3_; have GE398 := n4_; clear n0_ n1_ n2_ n3_ n4_; clear hb hbox hg; obtain ⟨Ao55, co55, eo55⟩ := Kd.N_slice HO394.out; subst eo55; have hcz56_0 := bc0_ BK398.out; have hfz56_0 := blk_frozen BK398.out 0) | ((with_reducible refine gate_callee (f := 17) rfl ?_); refine goesL_ (some 27) rfl rfl Try.func17 (by kernel_rfl) rfl #[.agg #[.slice Ao55 t392.length co55], .int .i64 t395, .int .i64 t396, .int .i64 t397] rfl qz1 ?_; (with_reducible refine (impl_Hold.calls k _ _ t392 t395 t396 t397 t399 t402 _ ?side1 ?side2 A5.out).mono ?_); (case side1 => refine (Kd.N_reads' (e := 79) (base := w.heap.size) (ok := fun k_ => (True ∧ k_ ≠ gb398)) (n := t392.length) (c := co55) ?_).2.2; exact (by (with_reducible repeat (first | apply Kd.N_alloc | apply Kd.N_drewN | apply Kd.N_drew)); exact (Kd.N_mono (Kd.N_far (p := ⟨gb398, 0, none⟩) (Kd.N_mono HO394.out (fun k_ hk => (⟨hk, hk.2⟩ : _ ∧ k_ ≠ gb398))) (fun _ hk => hk.2) (.slice Ao55 t392.length co55)) (fun _ h_ => h_.1)))); (case side2 => exact (Kd.N_reads' HO394.out).2.1); rintro e w57 ⟨v400, rfl, ho0, hb⟩; refine ⟨_, rfl, ?_⟩; have n0_ := aM (Kd.N_elder' (by (with_reducible repeat (first | apply Kd.N_alloc | apply Kd.N_drewN | apply Kd.N_drew)); exact (Kd.N_mono (Kd.N_far (p := ⟨gb398, 0, none⟩) (Kd.N_mono HO394.out (fun k_ hk => (⟨hk, hk.2⟩ : _ ∧ k_ ≠ gb398))) (fun _ hk => hk.2) (.slice Ao55 t392.length co55)) (fun _ h_ => h_.1))) (Kd.S_base ho0) hb); have n1_ := aM (Kd.N_lower (Kd.N_mono (ok' := fun k_ => some k_ ≠ (.slice Ao55 t392.length co55 : Value).ownBlock ∧ k_ ≠ gb398) (Kd.S_N (Kd.S_bound ho0)) (fun k_ hk_ => ⟨(Kd.fresh' (Kd.N_lt (by (with_reducible repeat (first | apply Kd.N_alloc | apply Kd.N_drewN | apply Kd.N_drew)); exact (Kd.N_mono (Kd.N_far (p := ⟨gb398, 0, none⟩) (Kd.N_mono HO394.out (fun k_ hk => (⟨hk, hk.2⟩ : _ ∧ k_ ≠ gb398))) (fun _ hk => hk.2) (.slice Ao55 t392.length co55)) (fun _ h_ => h_.1)))) k_ hk_.2.1), (Kd.freshB (g := gb398) (o := .cells #[.slice Ao55 t392.length co55] 26 (0, 0)) (by (with_reducible repeat (first | refine blk_drewN ?_ _ | refine blk_drew ?_ | refine blk_alloc ?_ _)); refine blk_put (cs := #[.slice none 0 0]) ?_ 0 _ rfl; exact bk_ BK398.out) k_ hk_.2.1)⟩)) (below_size qz38)); have n2_ := aM (blk_below (g := gb398) (o := .cells #[.slice Ao55 t392.length co55] 26 (0, 0)) (by (with_reducible repeat (first | refine blk_drewN ?_ _ | refine blk_drew ?_ | refine blk_alloc ?_ _)); refine blk_put (cs := #[.slice none 0 0]) ?_ 0 _ rfl; exact bk_ BK398.out) hb); have n3_ := aM (below_step qz38 hb); clear HO394 BK398 HB; have HO394 := n0_; have HO401 := n1_; have BK398 := n2_; have HB := n3_; clear n0_ n1_ n2_ n3_; (try clear hb); (try clear hb2); (try clear hk); (try clear hi); (try clear ho0)) | ((with_reducible refine gate_dst (N := 7) rfl ?_); refine bx_ 7 #[.slice none 0 0] 26 ?_; intro gb403 hg w58 hbox hb; have n0_ := aM (Kd.N_below (Kd.N_elderB qz45 gb403 (Nat.le_of_eq hg.symm)) hb); have n1_ := aM (Kd.N_below (Kd.N_elderB qz51 gb403 (Nat.le_of_eq hg.symm)) hb); have n2_ := aM (blk_below (bk_ BK398.out) hb); have n3_ := aM (below_step qz38 hb); have n4_ := aM (hbox); have n5_ := aM ((by rw [hg]; exact (below_size qz38) : w.heap.size ≤ gb403)); have n6_ := aM ((by rw [hg]; exact (below_size qz38) : w.heap.size ≤ gb403)); have n7_ := aM ((by rw [hg]; exact Nat.ne_of_lt (blk_lt (bk_ BK398.out)) : gb398 ≠ gb403)); have n8_ := aM ((by rw [hg]; exact Nat.ne_of_gt (blk_lt (bk_ BK398.out)) : gb403 ≠ gb398)); clear HO394 HO401 BK398 HB; have HO394 := n0_; have HO401 := n1_; have BK398 := n2_; have HB := n3_; have BK403 := n4_; have GW403 := n5_; have GE403 := n6_; have NB398_403 := n7_; have NB403_398 := n8_; clear n0_ n1_ n2_ n3_ n4_ n5_ n6_ n7_ n8_; clear hb hbox hg; obtain ⟨Ao59, co59, eo59⟩ := Kd.N_slice HO401.out; subst eo59; have hnb60 := NB403_398.out; have hnc60 := NB398_403.out; have hcz61_0 := bc0_ BK403.out; have hfz61_0 := blk_frozen BK403.out 0; have hcz62_0 := bc0_ BK398.out; have hfz62_0 := blk_frozen BK398.out 0) | ((with_reducible refine gate_callee (f := 18) rfl ?_); refine goesL_ (some 35) rfl rfl Try.func18 (by kernel_rfl) rfl #[.agg #[.slice Ao55 t392.length co55], .int .i64 t395, .int .i64 t396, .int .i64 t397] rfl qz1 ?_; (with_reducible refine (spec_Hold.calls k _ _ t392 t395 t396 t397 t404 t407 _ ?side1 ?side2 A6.out).mono ?_); (case side1 => refine (Kd.N_reads' (e := 79) (base := w.heap.size) (ok := fun k_ => (((True ∧ k_ ≠ gb398) ∧ some k_ ≠ (.slice Ao59 t399.length co59 : Value).ownBlock) ∧ k_ ≠ gb403)) (n := t392.length) (c := co55) ?_).2.2; exact (by (with_reducible repeat (first | apply Kd.N_alloc | apply Kd.N_drewN | apply Kd.N_drew)); exact (Kd.N_mono (Kd.N_far (p := ⟨gb403, 0, none⟩) (Kd.N_mono HO394.out (fun k_ hk => (⟨hk, hk.2⟩ : _ ∧ k_ ≠ gb403))) (fun _ hk => hk.2) (.slice Ao59 t399.length co59)) (fun _ h_ => h_.1)))); (case side2 => exact (Kd.N_reads' HO394.out).2.1); rintro e w63 ⟨v405, rfl, ho0, hb⟩; refine ⟨_, rfl, ?_⟩; have n0_ := aM (Kd.N_elder' (by (with_reducible repeat (first | apply Kd.N_alloc | apply Kd.N_drewN | apply Kd.N_drew)); exact (Kd.N_mono (Kd.N_far (p := ⟨gb403, 0, none⟩) (Kd.N_mono HO394.out (fun k_ hk => (⟨hk, hk.2⟩ : _ ∧ k_ ≠ gb403))) (fun _ hk => hk.2) (.slice Ao59 t399.length co59)) (fun _ h_ => h_.1))) (Kd.S_base ho0) hb); have n1_ := aM (Kd.N_elder' (by (with_reducible repeat (first | apply Kd.N_alloc | apply Kd.N_drewN | apply Kd.N_drew)); exact (Kd.N_mono (Kd.N_far (p := ⟨gb403, 0, none⟩) (Kd.N_mono HO401.out (fun k_ hk => (⟨hk, hk.2⟩ : _ ∧ k_ ≠ gb403))) (fun _ hk => hk.2) (.slice Ao59 t399.length co59)) (fun _ h_ => h_.1))) (Kd.S_base ho0) hb); have n2_ := aM (Kd.N_lower (Kd.N_mono (ok' := fun k_ => some k_ ≠ (.slice Ao55 t392.length co55 : Value).ownBlock ∧ some k_ ≠ (.slice Ao59 t399.length co59 : Value).ownBlock ∧ k_ ≠ gb398 ∧ k_ ≠ gb403) (Kd.S_N (Kd.S_bound ho0)) (fun k_ hk_ => ⟨(Kd.fresh' (Kd.N_lt (by (with_reducible repeat (first | apply Kd.N_alloc | apply Kd.N_drewN | apply Kd.N_drew)); exact (Kd.N_mono (Kd.N_far (p := ⟨gb403, 0, none⟩) (Kd.N_mono HO394.out (fun k_ hk => (⟨hk, hk.2⟩ : _ ∧ k_ ≠ gb403))) (fun _ hk => hk.2) (.slice Ao59 t399.length co59)) (fun _ h_ => h_.1)))) k_ hk_.2.1), (Kd.fresh' (Kd.N_lt (by (with_reducible repeat (first | apply Kd.N_alloc | apply Kd.N_drewN | apply Kd.N_drew)); exact (Kd.N_mono (Kd.N_far (p := ⟨gb403, 0, none⟩) (Kd.N_mono HO401.out (fun k_ hk => (⟨hk, hk.2⟩ : _ ∧ k_ ≠ gb403))) (fun _ hk => hk.2) (.slice Ao59 t399.length co59)) (fun _ h_ => h_.1)))) k_ hk_.2.1), (Kd.freshB (g := gb398) (o := .cells #[.slice Ao55 t392.length co55] 26 (0, 0)) qz76 k_ hk_.2.1), (Kd.freshB (g := gb403) (o := .cells #[.slice Ao59 t399.length co59] 26 (0, 0)) (by (with_reducible repeat (first | refine blk_drewN ?_ _ | refine blk_drew ?_ | refine blk_alloc ?_ _)); refine blk_put (cs := #[.slice none 0 0]) ?_ 0 _ rfl; exact bk_ BK403.out) k_ hk_.2.1)⟩)) (below_size qz29)); have n3_ := aM (blk_below (g := gb398) (o := .cells #[.slice Ao55 t392.length co55] 26 (0, 0)) qz76 hb); have n4_ := aM (blk_below (g := gb403) (o := .cells #[.slice Ao59 t399.length co59] 26 (0, 0)) (by (with_reducible repeat (first | refine blk_drewN ?_ _ | refine blk_drew ?_ | refine blk_alloc ?_ _)); refine blk_put (cs := #[.slice none 0 0]) ?_ 0 _ rfl; exact bk_ BK403.out) hb); have n5_ := aM (below_step qz29 hb); clear HO394 HO401 BK398 BK403 HB; have HO394 := n0_; have HO401 := n1_; have HO406 := n2_; have BK398 := n3_; have BK403 := n4_; have HB := n5_; clear n0_ n1_ n2_ n3_ n4_ n5_; (try clear hb); (try clear hb2); (try clear hk); (try clear hi); (try clear ho0)) | ((with_reducible refine gate_dst (N := 9) rfl ?_); refine bx_ 9 #[.slice none 0 0] 26 ?_; intro gb408 hg w64 hbox hb; have n0_ := aM (Kd.N_below (Kd.N_elderB qz45 gb408 (Nat.le_of_eq hg.symm)) hb); have n1_ := aM (Kd.N_below (Kd.N_elderB qz51 gb408 (Nat.le_of_eq hg.symm)) hb); have n2_ := aM (Kd.N_below (Kd.N_elderB qz62 gb408 (Nat.le_of_eq hg.symm)) hb); have n3_ := aM (blk_below (bk_ BK398.out) hb); have n4_ := aM (blk_below (bk_ BK403.out) hb); have n5_ := aM (below_step qz29 hb); have n6_ := aM (hbox); have n7_ := aM ((by rw [hg]; exact (below_size qz29) : w.heap.size ≤ gb408)); have n8_ := aM ((by rw [hg]; exact (below_size qz29) : w.heap.size ≤ gb408)); have n9_ := aM ((by rw [hg]; exact Nat.ne_of_lt (blk_lt (bk_ BK398.out)) : gb398 ≠ gb408)); have n10_ := aM ((by rw [hg]; exact Nat.ne_of_gt (blk_lt (bk_ BK398.out)) : gb408 ≠ gb398)); have n11_ := aM ((by rw [hg]; exact Nat.ne_of_lt (blk_lt (bk_ BK403.out)) : gb403 ≠ gb408)); have n12_ := aM ((by rw [hg]; exact Nat.ne_of_gt (blk_lt (bk_ BK403.out)) : gb408 ≠ gb403)); clear HO394 HO401 HO406 BK398 BK403 HB; have HO394 := n0_; have HO401 := n1_; have HO406 := n2_; have BK398 := n3_; have BK403 := n4_; have HB := n5_; have BK408 := n6_; have GW408 := n7_; have GE408 := n8_; have NB398_408 := n9_; have NB408_398 := n10_; have NB403_408 := n11_; have NB408_403 := n12_; clear n0_ n1_ n2_ n3_ n4_ n5_ n6_ n7_ n8_ n9_ n10_ n11_ n12_; clear hb hbox hg; obtain ⟨Ao65, co65, eo65⟩ := Kd.N_slice HO406.out; subst eo65; have hnb66 := NB408_398.out; have hnc66 := NB398_408.out; have hnb67 := NB408_403.out; have hnc67 := NB403_408.out; have hcz68_0 := bc0_ BK408.out; have hfz68_0 := blk_frozen BK408.out 0; have hcz69_0 := bc0_ BK403.out; have hfz69_0 := blk_frozen BK403.out 0; have hcz70_0 := bc0_ BK398.out; have hfz70_0 := blk_frozen BK398.out 0) | ((with_reducible refine gate_callee (f := 19) rfl ?_); refine goesL_ (some 45) rfl rfl Try.func19 (by kernel_rfl) rfl #[.agg #[.slice Ao59 t399.length co59], .agg #[.slice Ao55 t392.length co55]] rfl qz1 ?_; (with_reducible refine (laws_sameStock.calls k _ _ t399 _ _ t392 t409 _ ?side1 ?side2 ?side3 ?side4 A52.out).mono ?_); (case side1 => refine (Kd.N_reads' (e := 79) (base := w.heap.size) (ok := fun k_ => ((((some k_ ≠ (.slice Ao55 t392.length co55 : Value).ownBlock ∧ k_ ≠ gb398) ∧ k_ ≠ gb403) ∧ some k_ ≠ (.slice Ao65 t404.length co65 : Value).ownBlock) ∧ k_ ≠ gb408)) (n := t399.length) (c := co59) ?_).2.2; exact (by (with_reducible repeat (first | apply Kd.N_alloc | apply Kd.N_drewN | apply Kd.N_drew)); exact (Kd.N_mono (Kd.N_far (p := ⟨gb408, 0, none⟩) (Kd.N_mono HO401.out (fun k_ hk => (⟨hk, hk.2⟩ : _ ∧ k_ ≠ gb408))) (fun _ hk => hk.2) (.slice Ao65 t404.length co65)) (fun _ h_ => h_.1)))); (case side2 => exact (Kd.N_reads' HO401.out).2.1); (case side3 => refine (Kd.N_reads' (e := 79) (base := w.heap.size) (ok := fun k_ => (((((True ∧ k_ ≠ gb398) ∧ some k_ ≠ (.slice Ao59 t399.length co59 : Value).ownBlock) ∧ k_ ≠ gb403) ∧ some k_ ≠ (.slice Ao65 t404.length co65 : Value).ownBlock) ∧ k_ ≠ gb408)) (n := t392.length) (c := co55) ?_).2.2; exact (by (with_reducible repeat (first | apply Kd.N_alloc | apply Kd.N_drewN | apply Kd.N_drew)); exact (Kd.N_mono (Kd.N_far (p := ⟨gb408, 0, none⟩) (Kd.N_mono HO394.out (fun k_ hk => (⟨hk, hk.2⟩ : _ ∧ k_ ≠ gb408))) (fun _ hk => hk.2) (.slice Ao65 t404.length co65)) (fun _ h_ => h_.1)))); (case side4 => exact (Kd.N_reads' HO394.out).2.1); rintro e w71 ⟨rfl, hb⟩; refine ⟨_, rfl, ?_⟩; have n0_ := aM (Kd.N_below (by (with_reducible repeat (first | apply Kd.N_alloc | apply Kd.N_drewN | apply Kd.N_drew)); exact (Kd.N_mono (Kd.N_far (p := ⟨gb408, 0, none⟩) (Kd.N_mono HO394.out (fun k_ hk => (⟨hk, hk.2⟩ : _ ∧ k_ ≠ gb408))) (fun _ hk => hk.2) (.slice Ao65 t404.length co65)) (fun _ h_ => h_.1))) hb); have n1_ := aM (Kd.N_below (by (with_reducible repeat (first | apply Kd.N_alloc | apply Kd.N_drewN | apply Kd.N_drew)); exact (Kd.N_mono (Kd.N_far (p := ⟨gb408, 0, none⟩) (Kd.N_mono HO401.out (fun k_ hk => (⟨hk, hk.2⟩ : _ ∧ k_ ≠ gb408))) (fun _ hk => hk.2) (.slice Ao65 t404.length co65)) (fun _ h_ => h_.1))) hb); have n2_ := aM (Kd.N_below (by (with_reducible repeat (first | apply Kd.N_alloc | apply Kd.N_drewN | apply Kd.N_drew)); exact (Kd.N_mono (Kd.N_far (p := ⟨gb408, 0, none⟩) (Kd.N_mono HO406.out (fun k_ hk => (⟨hk, hk.2⟩ : _ ∧ k_ ≠ gb408))) (fun _ hk => hk.2) (.slice Ao65 t404.length co65)) (fun _ h_ => h_.1))) hb); have n3_ := aM (blk_below (g := gb398) (o := .cells #[.slice Ao55 t392.length co55] 26 (0, 0)) qz104 hb); have n4_ := aM (blk_below (g := gb403) (o := .cells #[.slice Ao59 t399.length co59] 26 (0, 0)) qz105 hb); have n5_ := aM (blk_below (g := gb408) (o := .cells #[.slice Ao65 t404.length co65] 26 (0, 0)) (by (with_reducible repeat (first | refine blk_drewN ?_ _ | refine blk_drew ?_ | refine blk_alloc ?_ _)); refine blk_put (cs := #[.slice none 0 0]) ?_ 0 _ rfl; exact bk_ BK408.out) hb); have n6_ := aM (below_step qz49 hb); clear HO394 HO401 HO406 BK398 BK403 BK408 HB; have HO394 := n0_; have HO401 := n1_; have HO406 := n2_; have BK398 := n3_; have BK403 := n4_; have BK408 := n5_; have HB := n6_; clear n0_ n1_ n2_ n3_ n4_ n5_ n6_; (try clear hb); (try clear hb2); (try clear hk); (try clear hi)))
 go_ret
 exact ⟨by first | rfl | (simp [errW_none, errW_some] <;> rfl) | (simp [*, errW_none, errW_some] <;> rfl), by repeat (first | (with_reducible first | exact HB.out | apply below_alloc | apply pw_below_drewN | apply below_drew1 | refine below_set ?_ GE398.out | refine below_set ?_ GE403.out | refine below_set ?_ GE408.out) | exact HB.out)⟩
 }
 }
 {
 rw [if_neg c7] at H
 have c7b0 := beq_eq_false_iff_ne.mpr c7
 have c7b1 := bne_iff_ne.mpr c7
 obtain rfl := Option.some.inj H
 exact absurd HTR_.out (by decide)

 }
 }
/-- THE ONE PURE STATEMENT of laws_FnHeld: yours. -/
def laws_FnHeld.Pure : Prop := ∀ (l0 : List Int), l0.length ≤ maxLen → l0.length * 1 ≤ 140737488351232 → (∀ x ∈ l0, (Lit.int .u8 x).wf = true) → ∃ k, laws_FnHeld.f k l0 = some true
theorem laws_FnHeld.walk (P : laws_FnHeld.Pure) (a0 : Option Addr) (len0 cap0 : Nat) (z0 : List Int) (w : World) (w0 : (a0 = none ∧ len0 = 0 ∧ cap0 = 0 ∧ z0 = []) ∨ ∃ x, a0 = some x ∧ len0 ≤ cap0 ∧ cap0 ≤ maxLen ∧ z0.length = cap0 ∧ (∀ i, i < z0.length → w.cell? (x.add i) = some (.int .u8 (z0.getD i 0))) ∧ ∀ n ∈ z0, (Lit.int .u8 n).wf = true) (y0 : len0 * 1 ≤ 140737488351232) :
  Calls Try.prog 3 #[.slice a0 len0 cap0] w fun e w' => e = .returned (.bool true) ∧ Below w.heap.size w w' := by
 obtain ⟨l0, rfl, hr0, hm0, hw0, hc0⟩ := ReadsInt.ofRowC w0
 obtain ⟨k, h⟩ := P l0 hm0 y0 hw0
 refine (laws_FnHeld.calls k _ _ l0 true w (Kd.C_of_reads (d := (0 : Int)) (h1 := fun _ => rfl) hr0) hc0 rfl h).mono ?_
 rintro e w' ⟨rfl, hd⟩
 exact ⟨rfl, hd⟩

end Go.Proofs.Yteajnkondkfmgaa.PFnHeld
