-- Made by a program of this session out of the translation. Lean checks it.
import Derived.Test.YtankmdbbgepmbaaPFnExactStepx19
namespace Go.Proofs.Ytankmdbbgepmbaa.PFnExactStep
open Go.RowKit Go.Proofs.YtankmdbbgepmbaaW.PrintWords Go.Proofs.YtankmdbbgepmbaaW.PrintLast Go.Proofs.YtankmdbbgepmbaaW.PrintMore
attribute [local go_sem] max2_int min2_int max_two min_two max_three min_three max_four min_four   -- for this text's walks alone
set_option linter.unusedVariables false
set_option linter.unusedSimpArgs false

/-! ### laws_FnExactStep: function 9 -/
def laws_FnExactStep.j0 : Nat → List (S40) → List Int → List Int → Bool → Int → Int → List Int → Option (Bool)
 | 0, _, _, _, _, _, _, _ => none
 | k + 1, x1, x6, x9, x63, x400000, x400001, x400002 => if x63 = true then (some false) else ((laws_markIntS.f k x9 1).bind fun bt441 => ((laws_heldIntS.f k bt441.2 1).bind fun t443 => (if t443 < 0 then (some false) else (if t443 = bt441.1 then ((laws_toFloor.f k x400000 x400001 x400002).bind fun bt444 => ((laws_toRobotS.f k x1).bind fun t449 => ((impl_Step.f k bt444.1 bt444.2.1 bt444.2.2 t449).bind fun t452 => ((laws_eqIntS.f k t452 x6).bind fun t455 => (if t455 = true then ((laws_heldIntS.f k bt441.2 1).bind fun t456 => (if t456 < 0 then (some false) else (if t456 = bt441.1 then (some true) else (some false)))) else (some false)))))) else (some false)))))
def laws_FnExactStep.f (k : Nat) (a0_0 : Int) (a0_1 : Int) (l0_2 : List Int) (l1 : List (S40)) : Option (Bool) := (laws_szFloor.f a0_0 a0_1 l0_2 1048576).bind fun t400 => (if t400 < 0 then (some true) else ((laws_szRobotS.f l1 t400).bind fun t401 => (if t401 < 0 then (some true) else ((laws_toFloor.f k a0_0 a0_1 l0_2).bind fun bt402 => ((laws_toRobotS.f k l1).bind fun t407 => ((spec_Step.f k bt402.1 bt402.2.1 bt402.2.2 t407).bind fun t410 => ((laws_toFloor.f k a0_0 a0_1 l0_2).bind fun bt413 => ((laws_toRobotS.f k l1).bind fun t419 => ((impl_Step.f k bt413.1 bt413.2.1 bt413.2.2 t419).bind fun t422 => ((laws_eqIntS.f k t422 t410).bind fun t425 => (if t425 = true then ((laws_toFloor.f k a0_0 a0_1 l0_2).bind fun bt426 => ((laws_eqFloor.f k bt413.1 bt413.2.1 bt413.2.2 bt426.1 bt426.2.1 bt426.2.2).bind fun t431 => (if t431 = true then ((laws_toRobotS.f k l1).bind fun t432 => ((laws_eqRobotS.f k t419 t432).bind fun t435 => (if t435 = true then ((laws_markFloor.f k bt413.1 bt413.2.1 bt413.2.2 1).bind fun bt436 => ((laws_markRobotS.f k t419 bt436.1).bind fun bt438 => (if bt438.1 < 0 then (laws_FnExactStep.j0 k l1 t410 t422 true a0_0 a0_1 l0_2) else ((laws_eqIntS.f k t422 t410).bind fun t440 => (laws_FnExactStep.j0 k l1 t410 t422 (!t440) a0_0 a0_1 l0_2))))) else (some false)))) else (some false)))) else (some false))))))))))))
theorem laws_FnExactStep.mono_l : ∀ k, (∀ y0 y1 y2 y3 y4 y5 y6, LeO (laws_FnExactStep.j0 k y0 y1 y2 y3 y4 y5 y6) (laws_FnExactStep.j0 (k + 1) y0 y1 y2 y3 y4 y5 y6))
 | 0 => fun _ _ _ _ _ _ _ r h => by simp [laws_FnExactStep.j0] at h
 | k + 1 => by
  have ih0 := laws_FnExactStep.mono_l k
  {
  intro y0 y1 y2 y3 y4 y5 y6
  unfold laws_FnExactStep.j0
  have j0 := @impl_Step.mono
  have j1 := @laws_eqFloor.mono
  have j2 := @laws_eqIntS.mono
  have j3 := @laws_eqRobotS.mono
  have j4 := @laws_heldIntS.mono
  have j5 := @laws_markFloor.mono
  have j6 := @laws_markIntS.mono
  have j7 := @laws_markRobotS.mono
  have j8 := @laws_toFloor.mono
  have j9 := @laws_toRobotS.mono
  have j10 := @spec_Step.mono
  exact qL
  }
theorem laws_FnExactStep.mono : ∀ a0 a1 a2 a3 k, LeO (laws_FnExactStep.f k a0 a1 a2 a3) (laws_FnExactStep.f (k + 1) a0 a1 a2 a3) := by
 intro a0 a1 a2 a3 k
 have ih0 := laws_FnExactStep.mono_l k
 unfold laws_FnExactStep.f
 have j0 := @impl_Step.mono
 have j1 := @laws_eqFloor.mono
 have j2 := @laws_eqIntS.mono
 have j3 := @laws_eqRobotS.mono
 have j4 := @laws_heldIntS.mono
 have j5 := @laws_markFloor.mono
 have j6 := @laws_markIntS.mono
 have j7 := @laws_markRobotS.mono
 have j8 := @laws_toFloor.mono
 have j9 := @laws_toRobotS.mono
 have j10 := @spec_Step.mono
 exact qL
set_option maxHeartbeats 8000000 in
set_option maxRecDepth 100000 in
theorem laws_FnExactStep.calls (k : Nat) (a0_0 : Int) (a0_1 : Int) (A0_2 : Option Addr) (c0_2 : Nat) (l0_2 : List Int) (A1 : Option Addr) (c1 : Nat) (l1 : List (S40)) (r : Bool) (w : World) (hr0_2 : Kd.C (Kd.int .i64) w A0_2 l0_2.length l0_2) (hc0_2 : l0_2.length ≤ c0_2) (hr1 : Kd.C k40 w A1 l1.length l1) (hc1 : l1.length ≤ c1) (hT : r = true) (h : laws_FnExactStep.f k a0_0 a0_1 l0_2 l1 = some r) :
  Calls Try.prog 9 #[.agg #[.int .i64 a0_0, .int .i64 a0_1, .slice A0_2 l0_2.length c0_2], .slice A1 l1.length c1] w fun e w' => e = .returned (.bool r) ∧ Below w.heap.size w w' := by
 have HTR_ := aM hT
 clear hT
 have hu39 := Try.underlying39
 have hu43 := Try.underlying43
 have HR0_2 := aM hr0_2
 have HC0_2 := aM hc0_2
 clear hr0_2 hc0_2
 have HR1 := aM hr1
 have HC1 := aM hc1
 clear hr1 hc1
 have HB := aM (Below.refl w.heap.size w)
 have H : ((laws_szFloor.f a0_0 a0_1 l0_2 1048576).bind fun t400 => (if t400 < 0 then (some true) else ((laws_szRobotS.f l1 t400).bind fun t401 => (if t401 < 0 then (some true) else ((laws_toFloor.f k a0_0 a0_1 l0_2).bind fun bt402 => ((laws_toRobotS.f k l1).bind fun t407 => ((spec_Step.f k bt402.1 bt402.2.1 bt402.2.2 t407).bind fun t410 => ((laws_toFloor.f k a0_0 a0_1 l0_2).bind fun bt413 => ((laws_toRobotS.f k l1).bind fun t419 => ((impl_Step.f k bt413.1 bt413.2.1 bt413.2.2 t419).bind fun t422 => ((laws_eqIntS.f k t422 t410).bind fun t425 => (if t425 = true then ((laws_toFloor.f k a0_0 a0_1 l0_2).bind fun bt426 => ((laws_eqFloor.f k bt413.1 bt413.2.1 bt413.2.2 bt426.1 bt426.2.1 bt426.2.2).bind fun t431 => (if t431 = true then ((laws_toRobotS.f k l1).bind fun t432 => ((laws_eqRobotS.f k t419 t432).bind fun t435 => (if t435 = true then ((laws_markFloor.f k bt413.1 bt413.2.1 bt413.2.2 1).bind fun bt436 => ((laws_markRobotS.f k t419 bt436.1).bind fun bt438 => (if bt438.1 < 0 then (laws_FnExactStep.j0 k l1 t410 t422 true a0_0 a0_1 l0_2) else ((laws_eqIntS.f k t422 t410).bind fun t440 => (laws_FnExactStep.j0 k l1 t410 t422 (!t440) a0_0 a0_1 l0_2))))) else (some false)))) else (some false)))) else (some false))))))))))))) = some r := h
 clear h
 replace H := Option.bind_eq_some_iff.mp H
 obtain ⟨t400, A30, H⟩ := H
 replace H : (if t400 < 0 then (some true) else ((laws_szRobotS.f l1 t400).bind fun t401 => (if t401 < 0 then (some true) else ((laws_toFloor.f k a0_0 a0_1 l0_2).bind fun bt402 => ((laws_toRobotS.f k l1).bind fun t407 => ((spec_Step.f k bt402.1 bt402.2.1 bt402.2.2 t407).bind fun t410 => ((laws_toFloor.f k a0_0 a0_1 l0_2).bind fun bt413 => ((laws_toRobotS.f k l1).bind fun t419 => ((impl_Step.f k bt413.1 bt413.2.1 bt413.2.2 t419).bind fun t422 => ((laws_eqIntS.f k t422 t410).bind fun t425 => (if t425 = true then ((laws_toFloor.f k a0_0 a0_1 l0_2).bind fun bt426 => ((laws_eqFloor.f k bt413.1 bt413.2.1 bt413.2.2 bt426.1 bt426.2.1 bt426.2.2).bind fun t431 => (if t431 = true then ((laws_toRobotS.f k l1).bind fun t432 => ((laws_eqRobotS.f k t419 t432).bind fun t435 => (if t435 = true then ((laws_markFloor.f k bt413.1 bt413.2.1 bt413.2.2 1).bind fun bt436 => ((laws_markRobotS.f k t419 bt436.1).bind fun bt438 => (if bt438.1 < 0 then (laws_FnExactStep.j0 k l1 t410 t422 true a0_0 a0_1 l0_2) else ((laws_eqIntS.f k t422 t410).bind fun t440 => (laws_FnExactStep.j0 k l1 t410 t422 (!t440) a0_0 a0_1 l0_2))))) else (some false)))) else (some false)))) else (some false)))))))))))) = some r := H
 have A3 := aM A30
 clear A30
 by_cases c4 : t400 < 0
 {
 rw [if_pos c4] at H
 have c4b0 := decide_eq_true c4
 clear c4
 obtain rfl := Option.some.inj H
 simp only [Option.some.injEq, Prod.mk.injEq] at H
 obtain ⟨rfl⟩ := H
 go_enter Try.func9, Try.ntmps9
 go_wp2_with (first | ((with_reducible refine gate_dst (N := 2) rfl ?_); refine bx_ 2 #[.int .i64 a0_0, .int .i64 a0_1, .slice A0_2 l0_2.length c0_2] 39 ?_; intro gb399 hg w5 hbox hb; have BK399 := aM (hbox); have GW399 := aM (bz_ w hg qz1); have GE399 := GW399; replace HB := bS_ hb; clear hb hbox hg; obtain ⟨hcz6_0, hcz6_1, hcz6_2, hfz6_0, hfz6_1, hfz6_2⟩ := b6_ BK399.out) | ((with_reducible refine gate_callee (f := 25) rfl ?_); refine goesL_ (some 16) rfl rfl Try.func25 (by kernel_rfl) rfl #[.agg #[.int .i64 a0_0, .int .i64 a0_1, .slice A0_2 l0_2.length c0_2], .int .i64 1048576] rfl qz2 ?_; (with_reducible refine (laws_szFloor.calls a0_0 a0_1 _ _ l0_2 1048576 t400 _ ?side1 ?side2 A3.out).mono ?_); (case side1 => exact qz3); (case side2 => exact qz15); rintro e w7 ⟨rfl, hb⟩; refine ⟨_, rfl, ?_⟩; replace BK399 := bB_ BK399 hb; replace HB := bS_ hb; (try clear hb)))
 go_ret
 exact ⟨qzw, qz1⟩
 }
 {
 rw [if_neg c4] at H
 have c4b0 := decide_eq_false c4
 clear c4
 replace H := Option.bind_eq_some_iff.mp H
 obtain ⟨t401, A80, H⟩ := H
 replace H : (if t401 < 0 then (some true) else ((laws_toFloor.f k a0_0 a0_1 l0_2).bind fun bt402 => ((laws_toRobotS.f k l1).bind fun t407 => ((spec_Step.f k bt402.1 bt402.2.1 bt402.2.2 t407).bind fun t410 => ((laws_toFloor.f k a0_0 a0_1 l0_2).bind fun bt413 => ((laws_toRobotS.f k l1).bind fun t419 => ((impl_Step.f k bt413.1 bt413.2.1 bt413.2.2 t419).bind fun t422 => ((laws_eqIntS.f k t422 t410).bind fun t425 => (if t425 = true then ((laws_toFloor.f k a0_0 a0_1 l0_2).bind fun bt426 => ((laws_eqFloor.f k bt413.1 bt413.2.1 bt413.2.2 bt426.1 bt426.2.1 bt426.2.2).bind fun t431 => (if t431 = true then ((laws_toRobotS.f k l1).bind fun t432 => ((laws_eqRobotS.f k t419 t432).bind fun t435 => (if t435 = true then ((laws_markFloor.f k bt413.1 bt413.2.1 bt413.2.2 1).bind fun bt436 => ((laws_markRobotS.f k t419 bt436.1).bind fun bt438 => (if bt438.1 < 0 then (laws_FnExactStep.j0 k l1 t410 t422 true a0_0 a0_1 l0_2) else ((laws_eqIntS.f k t422 t410).bind fun t440 => (laws_FnExactStep.j0 k l1 t410 t422 (!t440) a0_0 a0_1 l0_2))))) else (some false)))) else (some false)))) else (some false)))))))))) = some r := H
 have A8 := aM A80
 clear A80
 by_cases c9 : t401 < 0
 {
 rw [if_pos c9] at H
 have c9b0 := decide_eq_true c9
 clear c9
 obtain rfl := Option.some.inj H
 simp only [Option.some.injEq, Prod.mk.injEq] at H
 obtain ⟨rfl⟩ := H
 go_enter Try.func9, Try.ntmps9
 go_wp2_with (first | ((with_reducible refine gate_dst (N := 2) rfl ?_); refine bx_ 2 #[.int .i64 a0_0, .int .i64 a0_1, .slice A0_2 l0_2.length c0_2] 39 ?_; intro gb399 hg w10 hbox hb; have BK399 := aM (hbox); have GW399 := aM (bz_ w hg qz1); have GE399 := GW399; replace HB := bS_ hb; clear hb hbox hg; obtain ⟨hcz11_0, hcz11_1, hcz11_2, hfz11_0, hfz11_1, hfz11_2⟩ := b6_ BK399.out) | ((with_reducible refine gate_callee (f := 25) rfl ?_); refine goesL_ (some 16) rfl rfl Try.func25 (by kernel_rfl) rfl #[.agg #[.int .i64 a0_0, .int .i64 a0_1, .slice A0_2 l0_2.length c0_2], .int .i64 1048576] rfl qz2 ?_; (with_reducible refine (laws_szFloor.calls a0_0 a0_1 _ _ l0_2 1048576 t400 _ ?side1 ?side2 A3.out).mono ?_); (case side1 => exact qz3); (case side2 => exact qz15); rintro e w12 ⟨rfl, hb⟩; refine ⟨_, rfl, ?_⟩; replace BK399 := bB_ BK399 hb; replace HB := bS_ hb; (try clear hb)) | ((with_reducible refine gate_callee (f := 14) rfl ?_); refine goesL_ (some 21) rfl rfl Try.func14 (by kernel_rfl) rfl #[.slice A1 l1.length c1, .int .i64 t400] rfl qz2 ?_; (with_reducible refine (laws_szRobotS.calls _ _ l1 t400 t401 _ ?side1 ?side2 A8.out).mono ?_); (case side1 => exact qz7); (case side2 => exact HC1.out); rintro e w' ⟨rfl, ⟨nd, rfl⟩⟩; refine ⟨_, rfl, ?_⟩))
 go_ret
 exact ⟨qzw, qz1⟩
 }
 {
 rw [if_neg c9] at H
 have c9b0 := decide_eq_false c9
 clear c9
 replace H := Option.bind_eq_some_iff.mp H
 obtain ⟨⟨t402, t403, t404⟩, A130, H⟩ := H
 replace H : ((laws_toRobotS.f k l1).bind fun t407 => ((spec_Step.f k t402 t403 t404 t407).bind fun t410 => ((laws_toFloor.f k a0_0 a0_1 l0_2).bind fun bt413 => ((laws_toRobotS.f k l1).bind fun t419 => ((impl_Step.f k bt413.1 bt413.2.1 bt413.2.2 t419).bind fun t422 => ((laws_eqIntS.f k t422 t410).bind fun t425 => (if t425 = true then ((laws_toFloor.f k a0_0 a0_1 l0_2).bind fun bt426 => ((laws_eqFloor.f k bt413.1 bt413.2.1 bt413.2.2 bt426.1 bt426.2.1 bt426.2.2).bind fun t431 => (if t431 = true then ((laws_toRobotS.f k l1).bind fun t432 => ((laws_eqRobotS.f k t419 t432).bind fun t435 => (if t435 = true then ((laws_markFloor.f k bt413.1 bt413.2.1 bt413.2.2 1).bind fun bt436 => ((laws_markRobotS.f k t419 bt436.1).bind fun bt438 => (if bt438.1 < 0 then (laws_FnExactStep.j0 k l1 t410 t422 true a0_0 a0_1 l0_2) else ((laws_eqIntS.f k t422 t410).bind fun t440 => (laws_FnExactStep.j0 k l1 t410 t422 (!t440) a0_0 a0_1 l0_2))))) else (some false)))) else (some false)))) else (some false)))))))) = some r := H
 have A13 := aM A130
 clear A130
 replace H := Option.bind_eq_some_iff.mp H
 obtain ⟨t407, A140, H⟩ := H
 replace H : ((spec_Step.f k t402 t403 t404 t407).bind fun t410 => ((laws_toFloor.f k a0_0 a0_1 l0_2).bind fun bt413 => ((laws_toRobotS.f k l1).bind fun t419 => ((impl_Step.f k bt413.1 bt413.2.1 bt413.2.2 t419).bind fun t422 => ((laws_eqIntS.f k t422 t410).bind fun t425 => (if t425 = true then ((laws_toFloor.f k a0_0 a0_1 l0_2).bind fun bt426 => ((laws_eqFloor.f k bt413.1 bt413.2.1 bt413.2.2 bt426.1 bt426.2.1 bt426.2.2).bind fun t431 => (if t431 = true then ((laws_toRobotS.f k l1).bind fun t432 => ((laws_eqRobotS.f k t419 t432).bind fun t435 => (if t435 = true then ((laws_markFloor.f k bt413.1 bt413.2.1 bt413.2.2 1).bind fun bt436 => ((laws_markRobotS.f k t419 bt436.1).bind fun bt438 => (if bt438.1 < 0 then (laws_FnExactStep.j0 k l1 t410 t422 true a0_0 a0_1 l0_2) else ((laws_eqIntS.f k t422 t410).bind fun t440 => (laws_FnExactStep.j0 k l1 t410 t422 (!t440) a0_0 a0_1 l0_2))))) else (some false)))) else (some false)))) else (some false))))))) = some r := H
 have A14 := aM A140
 clear A140
 replace H := Option.bind_eq_some_iff.mp H
 obtain ⟨t410, A150, H⟩ := H
 replace H : ((laws_toFloor.f k a0_0 a0_1 l0_2).bind fun bt413 => ((laws_toRobotS.f k l1).bind fun t419 => ((impl_Step.f k bt413.1 bt413.2.1 bt413.2.2 t419).bind fun t422 => ((laws_eqIntS.f k t422 t410).bind fun t425 => (if t425 = true then ((laws_toFloor.f k a0_0 a0_1 l0_2).bind fun bt426 => ((laws_eqFloor.f k bt413.1 bt413.2.1 bt413.2.2 bt426.1 bt426.2.1 bt426.2.2).bind fun t431 => (if t431 = true then ((laws_toRobotS.f k l1).bind fun t432 => ((laws_eqRobotS.f k t419 t432).bind fun t435 => (if t435 = true then ((laws_markFloor.f k bt413.1 bt413.2.1 bt413.2.2 1).bind fun bt436 => ((laws_markRobotS.f k t419 bt436.1).bind fun bt438 => (if bt438.1 < 0 then (laws_FnExactStep.j0 k l1 t410 t422 true a0_0 a0_1 l0_2) else ((laws_eqIntS.f k t422 t410).bind fun t440 => (laws_FnExactStep.j0 k l1 t410 t422 (!t440) a0_0 a0_1 l0_2))))) else (some false)))) else (some false)))) else (some false)))))) = some r := H
 have A15 := aM A150
 clear A150
 replace H := Option.bind_eq_some_iff.mp H
 obtain ⟨⟨t413, t414, t415⟩, A160, H⟩ := H
 replace H : ((laws_toRobotS.f k l1).bind fun t419 => ((impl_Step.f k t413 t414 t415 t419).bind fun t422 => ((laws_eqIntS.f k t422 t410).bind fun t425 => (if t425 = true then ((laws_toFloor.f k a0_0 a0_1 l0_2).bind fun bt426 => ((laws_eqFloor.f k t413 t414 t415 bt426.1 bt426.2.1 bt426.2.2).bind fun t431 => (if t431 = true then ((laws_toRobotS.f k l1).bind fun t432 => ((laws_eqRobotS.f k t419 t432).bind fun t435 => (if t435 = true then ((laws_markFloor.f k t413 t414 t415 1).bind fun bt436 => ((laws_markRobotS.f k t419 bt436.1).bind fun bt438 => (if bt438.1 < 0 then (laws_FnExactStep.j0 k l1 t410 t422 true a0_0 a0_1 l0_2) else ((laws_eqIntS.f k t422 t410).bind fun t440 => (laws_FnExactStep.j0 k l1 t410 t422 (!t440) a0_0 a0_1 l0_2))))) else (some false)))) else (some false)))) else (some false))))) = some r := H
 have A16 := aM A160
 clear A160
 replace H := Option.bind_eq_some_iff.mp H
 obtain ⟨t419, A170, H⟩ := H
 replace H : ((impl_Step.f k t413 t414 t415 t419).bind fun t422 => ((laws_eqIntS.f k t422 t410).bind fun t425 => (if t425 = true then ((laws_toFloor.f k a0_0 a0_1 l0_2).bind fun bt426 => ((laws_eqFloor.f k t413 t414 t415 bt426.1 bt426.2.1 bt426.2.2).bind fun t431 => (if t431 = true then ((laws_toRobotS.f k l1).bind fun t432 => ((laws_eqRobotS.f k t419 t432).bind fun t435 => (if t435 = true then ((laws_markFloor.f k t413 t414 t415 1).bind fun bt436 => ((laws_markRobotS.f k t419 bt436.1).bind fun bt438 => (if bt438.1 < 0 then (laws_FnExactStep.j0 k l1 t410 t422 true a0_0 a0_1 l0_2) else ((laws_eqIntS.f k t422 t410).bind fun t440 => (laws_FnExactStep.j0 k l1 t410 t422 (!t440) a0_0 a0_1 l0_2))))) else (some false)))) else (some false)))) else (some false)))) = some r := H
 have A17 := aM A170
 clear A170
 replace H := Option.bind_eq_some_iff.mp H
 obtain ⟨t422, A180, H⟩ := H
 replace H : ((laws_eqIntS.f k t422 t410).bind fun t425 => (if t425 = true then ((laws_toFloor.f k a0_0 a0_1 l0_2).bind fun bt426 => ((laws_eqFloor.f k t413 t414 t415 bt426.1 bt426.2.1 bt426.2.2).bind fun t431 => (if t431 = true then ((laws_toRobotS.f k l1).bind fun t432 => ((laws_eqRobotS.f k t419 t432).bind fun t435 => (if t435 = true then ((laws_markFloor.f k t413 t414 t415 1).bind fun bt436 => ((laws_markRobotS.f k t419 bt436.1).bind fun bt438 => (if bt438.1 < 0 then (laws_FnExactStep.j0 k l1 t410 t422 true a0_0 a0_1 l0_2) else ((laws_eqIntS.f k t422 t410).bind fun t440 => (laws_FnExactStep.j0 k l1 t410 t422 (!t440) a0_0 a0_1 l0_2))))) else (some false)))) else (some false)))) else (some false))) = some r := H
 have A18 := aM A180
 clear A180
 replace H := Option.bind_eq_some_iff.mp H
 obtain ⟨t425, A190, H⟩ := H
 replace H : (if t425 = true then ((laws_toFloor.f k a0_0 a0_1 l0_2).bind fun bt426 => ((laws_eqFloor.f k t413 t414 t415 bt426.1 bt426.2.1 bt426.2.2).bind fun t431 => (if t431 = true then ((laws_toRobotS.f k l1).bind fun t432 => ((laws_eqRobotS.f k t419 t432).bind fun t435 => (if t435 = true then ((laws_markFloor.f k t413 t414 t415 1).bind fun bt436 => ((laws_markRobotS.f k t419 bt436.1).bind fun bt438 => (if bt438.1 < 0 then (laws_FnExactStep.j0 k l1 t410 t422 true a0_0 a0_1 l0_2) else ((laws_eqIntS.f k t422 t410).bind fun t440 => (laws_FnExactStep.j0 k l1 t410 t422 (!t440) a0_0 a0_1 l0_2))))) else (some false)))) else (some false)))) else (some false)) = some r := H
 have A19 := aM A190
 clear A190
 by_cases c20 : t425 = true
 {
 subst c20
 rw [if_pos rfl] at H
 replace H := Option.bind_eq_some_iff.mp H
 obtain ⟨⟨t426, t427, t428⟩, A210, H⟩ := H
 replace H : ((laws_eqFloor.f k t413 t414 t415 t426 t427 t428).bind fun t431 => (if t431 = true then ((laws_toRobotS.f k l1).bind fun t432 => ((laws_eqRobotS.f k t419 t432).bind fun t435 => (if t435 = true then ((laws_markFloor.f k t413 t414 t415 1).bind fun bt436 => ((laws_markRobotS.f k t419 bt436.1).bind fun bt438 => (if bt438.1 < 0 then (laws_FnExactStep.j0 k l1 t410 t422 true a0_0 a0_1 l0_2) else ((laws_eqIntS.f k t422 t410).bind fun t440 => (laws_FnExactStep.j0 k l1 t410 t422 (!t440) a0_0 a0_1 l0_2))))) else (some false)))) else (some false))) = some r := H
 have A21 := aM A210
 clear A210
 replace H := Option.bind_eq_some_iff.mp H
 obtain ⟨t431, A220, H⟩ := H
 replace H : (if t431 = true then ((laws_toRobotS.f k l1).bind fun t432 => ((laws_eqRobotS.f k t419 t432).bind fun t435 => (if t435 = true then ((laws_markFloor.f k t413 t414 t415 1).bind fun bt436 => ((laws_markRobotS.f k t419 bt436.1).bind fun bt438 => (if bt438.1 < 0 then (laws_FnExactStep.j0 k l1 t410 t422 true a0_0 a0_1 l0_2) else ((laws_eqIntS.f k t422 t410).bind fun t440 => (laws_FnExactStep.j0 k l1 t410 t422 (!t440) a0_0 a0_1 l0_2))))) else (some false)))) else (some false)) = some r := H
 have A22 := aM A220
 clear A220
 by_cases c23 : t431 = true
 {
 subst c23
 rw [if_pos rfl] at H
 replace H := Option.bind_eq_some_iff.mp H
 obtain ⟨t432, A240, H⟩ := H
 replace H : ((laws_eqRobotS.f k t419 t432).bind fun t435 => (if t435 = true then ((laws_markFloor.f k t413 t414 t415 1).bind fun bt436 => ((laws_markRobotS.f k t419 bt436.1).bind fun bt438 => (if bt438.1 < 0 then (laws_FnExactStep.j0 k l1 t410 t422 true a0_0 a0_1 l0_2) else ((laws_eqIntS.f k t422 t410).bind fun t440 => (laws_FnExactStep.j0 k l1 t410 t422 (!t440) a0_0 a0_1 l0_2))))) else (some false))) = some r := H
 have A24 := aM A240
 clear A240
 replace H := Option.bind_eq_some_iff.mp H
 obtain ⟨t435, A250, H⟩ := H
 replace H : (if t435 = true then ((laws_markFloor.f k t413 t414 t415 1).bind fun bt436 => ((laws_markRobotS.f k t419 bt436.1).bind fun bt438 => (if bt438.1 < 0 then (laws_FnExactStep.j0 k l1 t410 t422 true a0_0 a0_1 l0_2) else ((laws_eqIntS.f k t422 t410).bind fun t440 => (laws_FnExactStep.j0 k l1 t410 t422 (!t440) a0_0 a0_1 l0_2))))) else (some false)) = some r := H
 have A25 := aM A250
 clear A250
 by_cases c26 : t435 = true
 {
 subst c26
 rw [if_pos rfl] at H
 replace H := Option.bind_eq_some_iff.mp H
 obtain ⟨⟨t436, t437⟩, A270, H⟩ := H
 replace H : ((laws_markRobotS.f k t419 t436).bind fun bt438 => (if bt438.1 < 0 then (laws_FnExactStep.j0 k l1 t410 t422 true a0_0 a0_1 l0_2) else ((laws_eqIntS.f k t422 t410).bind fun t440 => (laws_FnExactStep.j0 k l1 t410 t422 (!t440) a0_0 a0_1 l0_2)))) = some r := H
 have A27 := aM A270
 clear A270
 replace H := Option.bind_eq_some_iff.mp H
 obtain ⟨⟨t438, t439⟩, A280, H⟩ := H
 replace H : (if t438 < 0 then (laws_FnExactStep.j0 k l1 t410 t422 true a0_0 a0_1 l0_2) else ((laws_eqIntS.f k t422 t410).bind fun t440 => (laws_FnExactStep.j0 k l1 t410 t422 (!t440) a0_0 a0_1 l0_2))) = some r := H
 have A28 := aM A280
 clear A280
 have HC29 := aM H
 clear H
 go_enter Try.func9, Try.ntmps9
 try go_wp2_with (first | ((with_reducible refine gate_dst (N := 2) rfl ?_); refine bx_ 2 #[.int .i64 a0_0, .int .i64 a0_1, .slice A0_2 l0_2.length c0_2] 39 ?_; intro gb399 hg w30 hbox hb; have BK399 := aM (hbox); have GW399 := aM (bz_ w hg qz1); have GE399 := GW399; replace HB := bS_ hb; clear hb hbox hg; obtain ⟨hcz31_0, hcz31_1, hcz31_2, hfz31_0, hfz31_1, hfz31_2⟩ := b6_ BK399.out) | ((with_reducible refine gate_callee (f := 25) rfl ?_); refine goesL_ (some 16) rfl rfl Try.func25 (by kernel_rfl) rfl #[.agg #[.int .i64 a0_0, .int .i64 a0_1, .slice A0_2 l0_2.length c0_2], .int .i64 1048576] rfl qz2 ?_; (with_reducible refine (laws_szFloor.calls a0_0 a0_1 _ _ l0_2 1048576 t400 _ ?side1 ?side2 A3.out).mono ?_); (case side1 => exact qz3); (case side2 => exact qz15); rintro e w32 ⟨rfl, hb⟩; refine ⟨_, rfl, ?_⟩; replace BK399 := bB_ BK399 hb; replace HB := bS_ hb; (try clear hb)) | ((with_reducible refine gate_callee (f := 14) rfl ?_); refine goesL_ (some 21) rfl rfl Try.func14 (by kernel_rfl) rfl #[.slice A1 l1.length c1, .int .i64 t400] rfl qz2 ?_; (with_reducible refine (laws_szRobotS.calls _ _ l1 t400 t401 _ ?side1 ?side2 A8.out).mono ?_); (case side1 => exact qz7); (case side2 => exact HC1.out); rintro e w' ⟨rfl, ⟨nd, rfl⟩⟩; refine ⟨_, rfl, ?_⟩; (try (rw [drewN_self w32]; generalize hq_ : World.drewN w32 _ = w32; replace BK399 : Aside0 (w32.heap[gb399]? = some (.cells #[.int .i64 a0_0, .int .i64 a0_1, .slice A0_2 l0_2.length c0_2] 39 (0, 0))) := ⟨by rw [← hq_]; exact (bk_ BK399.out)⟩; replace HB : Aside0 (Below w.heap.size w w32) := ⟨by rw [← hq_]; exact qz1⟩; clear hq_)); obtain ⟨hcz33_0, hcz33_1, hcz33_2, hfz33_0, hfz33_1, hfz33_2⟩ := b6_ BK399.out) | ((with_reducible refine gate_callee (f := 27) rfl ?_); refine goesL_ (some 25) rfl rfl Try.func27 (by kernel_rfl) rfl #[.agg #[.int .i64 a0_0, .int .i64 a0_1, .slice A0_2 l0_2.length c0_2]] rfl qz2 ?_; (with_reducible refine (laws_toFloor.calls k a0_0 a0_1 _ _ l0_2 t402 t403 t404 _ ?side1 ?side2 A13.out).mono ?_); (case side1 => exact qz3); (case side2 => exact qz15); rintro e w34 ⟨v405, rfl, ho0, hb⟩; refine ⟨_, rfl, ?_⟩; have HO406 := aM (Kd.R_lower ho0 (below_size qz1)); replace BK399 := bB_ BK399 hb; replace HB := bS_ hb; (try clear hb ho0)) | ((with_reducible refine gate_callee (f := 16) rfl ?_); refine goesL_ (some 27) rfl rfl Try.func16 (by kernel_rfl) rfl #[.slice A1 l1.length c1] rfl qz2 ?_; (with_reducible refine (laws_toRobotS.calls k _ _ l1 t407 _ ?side1 ?side2 A14.out).mono ?_); (case side1 => exact qz7); (case side2 => exact HC1.out); rintro e w35 ⟨v408, rfl, ho0, hb⟩; refine ⟨_, rfl, ?_⟩; replace HO406 := aM (Kd.R_below (rr_ HO406.out) hb); have HO409 := aM (Kd.R_lower ho0 (below_size qz1)); replace BK399 := bB_ BK399 hb; replace HB := bS_ hb; (try clear hb ho0); obtain ⟨Ao36, co36, eo36⟩ := Kd.R_slice HO406.out; subst eo36; obtain ⟨Ao37, co37, eo37⟩ := Kd.R_slice HO409.out; subst eo37) | ((with_reducible refine gate_callee (f := 41) rfl ?_); refine goesL_ (some 28) rfl rfl Try.func41 (by kernel_rfl) rfl #[.agg #[.int .i64 t402, .int .i64 t403, .slice Ao36 t404.length co36], .slice Ao37 t407.length co37] rfl qz2 ?_; (with_reducible refine (spec_Step.calls k t402 t403 _ _ t404 _ _ t407 t410 _ ?side1 ?side2 ?side3 ?side4 A15.out).mono ?_); (case side1 => repeat (first | exact (Kd.R_reads' HO406.out).2.2 | (with_reducible refine Kd.C_alloc ?_ _) | (with_reducible refine Kd.C_drewN ?_ _) | (with_reducible refine Kd.C_drew ?_))); (case side2 => exact (Kd.R_reads' HO406.out).2.1); (case side3 => repeat (first | exact (Kd.R_reads' HO409.out).2.2 | (with_reducible refine Kd.C_alloc ?_ _) | (with_reducible refine Kd.C_drewN ?_ _) | (with_reducible refine Kd.C_drew ?_))); (case side4 => exact (Kd.R_reads' HO409.out).2.1); rintro e w38 ⟨v411, rfl, ho0, hb⟩; refine ⟨_, rfl, ?_⟩; replace HO409 := aM (Kd.R_below (rr_ HO409.out) hb); have HO412 := aM (Kd.R_lower (Kd.R_new' ho0 (Kd.R_lt (rr_ HO406.out))) (below_size qz1)); replace HO406 := aM (Kd.R_elder' (rr_ HO406.out) (Kd.R_base ho0) hb); replace BK399 := bB_ BK399 hb; replace HB := bS_ hb; (try clear hb ho0); obtain ⟨hcz39_0, hcz39_1, hcz39_2, hfz39_0, hfz39_1, hfz39_2⟩ := b6_ BK399.out) | ((with_reducible refine gate_callee (f := 27) rfl ?_); refine goesL_ (some 30) rfl rfl Try.func27 (by kernel_rfl) rfl #[.agg #[.int .i64 a0_0, .int .i64 a0_1, .slice A0_2 l0_2.length c0_2]] rfl qz2 ?_; (with_reducible refine (laws_toFloor.calls k a0_0 a0_1 _ _ l0_2 t413 t414 t415 _ ?side1 ?side2 A16.out).mono ?_); (case side1 => exact qz3); (case side2 => exact qz15); rintro e w40 ⟨v416, rfl, ho0, hb⟩; refine ⟨_, rfl, ?_⟩; replace HO409 := aM (Kd.R_below (rr_ HO409.out) hb); have HO417 := aM (Kd.R_lower (Kd.R_new' (Kd.R_new' ho0 (Kd.R_lt (rr_ HO406.out))) (Kd.R_lt (rr_ HO412.out))) (below_size qz1)); replace HO406 := aM (Kd.R_elder' (rr_ HO406.out) (Kd.R_base ho0) hb); replace HO412 := aM (Kd.R_elder' (rr_ HO412.out) (Kd.R_base ho0) hb); replace BK399 := bB_ BK399 hb; replace HB := bS_ hb; (try clear hb ho0)) | ((with_reducible refine gate_dst (N := 7) rfl ?_); refine bx_ 7 #[.int .i64 0, .int .i64 0, .slice none 0 0] 43 ?_; intro gb418 hg w41 hbox hb; replace HO406 := aM (Kd.R_below (rr_ HO406.out) hb); replace HO409 := aM (Kd.R_below (rr_ HO409.out) hb); replace HO412 := aM (Kd.R_below (rr_ HO412.out) hb); replace HO417 := aM (Kd.R_below (rr_ HO417.out) hb); have BK418 := aM (hbox); have GW418 := aM (bz_ w hg qz1); have GE418 := GW418; replace HB := bS_ hb; obtain ⟨NB399_418, NB418_399⟩ := nb_ hg (bk_ BK399.out); replace BK399 := bB_ BK399 hb; clear hb hbox hg; have hnb42 := NB418_399.out; have hnc42 := NB399_418.out; obtain ⟨hcz43_0, hcz43_1, hcz43_2, hfz43_0, hfz43_1, hfz43_2⟩ := b6_ BK418.out; obtain ⟨Ao44, co44, eo44⟩ := Kd.R_slice HO417.out; subst eo44) | ((with_reducible refine gate_callee (f := 16) rfl ?_); refine goesL_ (some 32) rfl rfl Try.func16 (by kernel_rfl) rfl #[.slice A1 l1.length c1] rfl qz2 ?_; (with_reducible refine (laws_toRobotS.calls k _ _ l1 t419 _ ?side1 ?side2 A17.out).mono ?_); (case side1 => exact Kd.C_below HR1.out qz1); (case side2 => exact HC1.out); rintro e w45 ⟨v420, rfl, ho0, hb⟩; refine ⟨_, rfl, ?_⟩; replace HO406 := aM (Kd.R_below (by (with_reducible repeat (first | apply Kd.R_alloc | apply Kd.R_drewN | apply Kd.R_drew)); exact (Kd.R_mono (Kd.R_far (p := ⟨gb418, 2, none⟩) (Kd.R_far (p := ⟨gb418, 1, none⟩) (Kd.R_far (p := ⟨gb418, 0, none⟩) (Kd.R_types HO406.out BK418.out (by decide)) (fun _ hk => hk.2) (.int .i64 t413)) (fun _ hk => hk.2) (.int .i64 t414)) (fun _ hk => hk.2) (.slice Ao44 t415.length co44)) (fun _ h_ => h_.1))) hb); replace HO412 := aM (Kd.R_below (by (with_reducible repeat (first | apply Kd.R_alloc | apply Kd.R_drewN | apply Kd.R_drew)); exact (Kd.R_mono (Kd.R_far (p := ⟨gb418, 2, none⟩) (Kd.R_far (p := ⟨gb418, 1, none⟩) (Kd.R_far (p := ⟨gb418, 0, none⟩) (Kd.R_types HO412.out BK418.out (by decide)) (fun _ hk => hk.2) (.int .i64 t413)) (fun _ hk => hk.2) (.int .i64 t414)) (fun _ hk => hk.2) (.slice Ao44 t415.length co44)) (fun _ h_ => h_.1))) hb); replace HO417 := aM (Kd.R_below (by (with_reducible repeat (first | apply Kd.R_alloc | apply Kd.R_drewN | apply Kd.R_drew)); exact (Kd.R_mono (Kd.R_far (p := ⟨gb418, 2, none⟩) (Kd.R_far (p := ⟨gb418, 1, none⟩) (Kd.R_far (p := ⟨gb418, 0, none⟩) (Kd.R_types HO417.out BK418.out (by decide)) (fun _ hk => hk.2) (.int .i64 t413)) (fun _ hk => hk.2) (.int .i64 t414)) (fun _ hk => hk.2) (.slice Ao44 t415.length co44)) (fun _ h_ => h_.1))) hb); have HO421 := aM (Kd.R_lower (Kd.R_new' ho0 (Kd.R_lt (by (with_reducible repeat (first | apply Kd.R_alloc | apply Kd.R_drewN | apply Kd.R_drew)); exact (Kd.R_mono (Kd.R_far (p := ⟨gb418, 2, none⟩) (Kd.R_far (p := ⟨gb418, 1, none⟩) (Kd.R_far (p := ⟨gb418, 0, none⟩) (Kd.R_types HO409.out BK418.out (by decide)) (fun _ hk => hk.2) (.int .i64 t413)) (fun _ hk => hk.2) (.int .i64 t414)) (fun _ hk => hk.2) (.slice Ao44 t415.length co44)) (fun _ h_ => h_.1))))) (below_size qz1)); replace HO409 := aM (Kd.R_elder' (by (with_reducible repeat (first | apply Kd.R_alloc | apply Kd.R_drewN | apply Kd.R_drew)); exact (Kd.R_mono (Kd.R_far (p := ⟨gb418, 2, none⟩) (Kd.R_far (p := ⟨gb418, 1, none⟩) (Kd.R_far (p := ⟨gb418, 0, none⟩) (Kd.R_types HO409.out BK418.out (by decide)) (fun _ hk => hk.2) (.int .i64 t413)) (fun _ hk => hk.2) (.int .i64 t414)) (fun _ hk => hk.2) (.slice Ao44 t415.length co44)) (fun _ h_ => h_.1))) (Kd.R_base ho0) hb); replace BK399 := aM (blk_below (g := gb399) (o := .cells #[.int .i64 a0_0, .int .i64 a0_1, .slice A0_2 l0_2.length c0_2] 39 (0, 0)) (bk2_ BK399.out) hb); replace BK418 := aM (blk_below (g := gb418) (o := .cells #[.int .i64 t413, .int .i64 t414, .slice Ao44 t415.length co44] 43 (0, 0)) (by (with_reducible repeat (first | refine blk_drewN ?_ _ | refine blk_drew ?_ | refine blk_alloc ?_ _)); refine blk_put (cs := #[.int .i64 t413, .int .i64 t414, .slice none 0 0]) ?_ 2 _ rfl; (with_reducible repeat (first | refine blk_drewN ?_ _ | refine blk_drew ?_ | refine blk_alloc ?_ _)); refine blk_put (cs := #[.int .i64 t413, .int .i64 0, .slice none 0 0]) ?_ 1 _ rfl; (with_reducible repeat (first | refine blk_drewN ?_ _ | refine blk_drew ?_ | refine blk_alloc ?_ _)); refine blk_put (cs := #[.int .i64 0, .int .i64 0, .slice none 0 0]) ?_ 0 _ rfl; exact bk_ BK418.out) hb); replace HB := bS_ hb; (try clear hb ho0); obtain ⟨hcz46_0, hcz46_1, hcz46_2, hfz46_0, hfz46_1, hfz46_2⟩ := b6_ BK418.out; obtain ⟨Ao47, co47, eo47⟩ := Kd.R_slice HO421.out; subst eo47) | ((with_reducible refine gate_callee (f := 42) rfl ?_); refine goesL_ (some 35) rfl rfl Try.func42 (by kernel_rfl) rfl #[.agg #[.int .i64 t413, .int .i64 t414, .slice Ao44 t415.length co44], .slice Ao47 t419.length co47] rfl qz2 ?_; (with_reducible refine (impl_Step.calls k t413 t414 _ _ t415 _ _ t419 t422 _ ?side1 ?side2 ?side3 ?side4 A18.out).mono ?_); (case side1 => repeat (first | exact (Kd.R_reads' HO417.out).2.2 | (with_reducible refine Kd.C_alloc ?_ _) | (with_reducible refine Kd.C_drewN ?_ _) | (with_reducible refine Kd.C_drew ?_))); (case side2 => exact (Kd.R_reads' HO417.out).2.1); (case side3 => repeat (first | exact (Kd.R_reads' HO421.out).2.2 | (with_reducible refine Kd.C_alloc ?_ _) | (with_reducible refine Kd.C_drewN ?_ _) | (with_reducible refine Kd.C_drew ?_))); (case side4 => exact (Kd.R_reads' HO421.out).2.1); rintro e w48 ⟨v423, rfl, ho0, hb⟩; refine ⟨_, rfl, ?_⟩; replace HO409 := aM (Kd.R_below (rr_ HO409.out) hb); replace HO421 := aM (Kd.R_below (rr_ HO421.out) hb); have HO424 := aM (Kd.R_lower (Kd.R_new' (Kd.R_new' (Kd.R_new' ho0 (Kd.R_lt (rr_ HO406.out))) (Kd.R_lt (rr_ HO412.out))) (Kd.R_lt (rr_ HO417.out))) (below_size qz1)); replace HO406 := aM (Kd.R_elder' (rr_ HO406.out) (Kd.R_base ho0) hb); replace HO412 := aM (Kd.R_elder' (rr_ HO412.out) (Kd.R_base ho0) hb); replace HO417 := aM (Kd.R_elder' (rr_ HO417.out) (Kd.R_base ho0) hb); replace BK399 := bB_ BK399 hb; replace BK418 := bB_ BK418 hb; replace HB := bS_ hb; (try clear hb ho0); obtain ⟨Ao49, co49, eo49⟩ := Kd.R_slice HO424.out; subst eo49; obtain ⟨Ao50, co50, eo50⟩ := Kd.R_slice HO412.out; subst eo50) | ((with_reducible refine gate_callee (f := 18) rfl ?_); refine goesL_ (some 38) rfl rfl Try.func18 (by kernel_rfl) rfl #[.slice Ao49 t422.length co49, .slice Ao50 t410.length co50] rfl qz2 ?_; (with_reducible refine (laws_eqIntS.calls k _ _ t422 _ _ t410 true _ ?side1 ?side2 ?side3 ?side4 A19.out).mono ?_); (case side1 => repeat (first | exact (Kd.R_reads' HO424.out).2.2 | (with_reducible refine Kd.C_alloc ?_ _) | (with_reducible refine Kd.C_drewN ?_ _) | (with_reducible refine Kd.C_drew ?_))); (case side2 => exact (Kd.R_reads' HO424.out).2.1); (case side3 => repeat (first | exact (Kd.R_reads' HO412.out).2.2 | (with_reducible refine Kd.C_alloc ?_ _) | (with_reducible refine Kd.C_drewN ?_ _) | (with_reducible refine Kd.C_drew ?_))); (case side4 => exact (Kd.R_reads' HO412.out).2.1); rintro e w' ⟨rfl, ⟨nd, rfl⟩⟩; refine ⟨_, rfl, ?_⟩))
 (try (rw [drewN_self w48]; generalize hq_ : World.drewN w48 _ = w48; replace HO406 : Aside0 (Kd.R (Kd.int .i64) 3 w48 w.heap.size (fun k_ => (((True ∧ some k_ ≠ (.slice Ao50 t410.length co50 : Value).ownBlock) ∧ some k_ ≠ (.slice Ao44 t415.length co44 : Value).ownBlock) ∧ some k_ ≠ (.slice Ao49 t422.length co49 : Value).ownBlock)) (.slice Ao36 t404.length co36) t404) := ⟨by rw [← hq_]; exact (rr_ HO406.out)⟩; replace HO409 : Aside0 (Kd.R k37 37 w48 w.heap.size (fun k_ => (True ∧ some k_ ≠ (.slice Ao47 t419.length co47 : Value).ownBlock)) (.slice Ao37 t407.length co37) t407) := ⟨by rw [← hq_]; exact (rr_ HO409.out)⟩; replace HO412 : Aside0 (Kd.R (Kd.int .i64) 3 w48 w.heap.size (fun k_ => (((True ∧ some k_ ≠ (.slice Ao36 t404.length co36 : Value).ownBlock) ∧ some k_ ≠ (.slice Ao44 t415.length co44 : Value).ownBlock) ∧ some k_ ≠ (.slice Ao49 t422.length co49 : Value).ownBlock)) (.slice Ao50 t410.length co50) t410) := ⟨by rw [← hq_]; exact (rr_ HO412.out)⟩; replace HO417 : Aside0 (Kd.R (Kd.int .i64) 3 w48 w.heap.size (fun k_ => (((True ∧ some k_ ≠ (.slice Ao36 t404.length co36 : Value).ownBlock) ∧ some k_ ≠ (.slice Ao50 t410.length co50 : Value).ownBlock) ∧ some k_ ≠ (.slice Ao49 t422.length co49 : Value).ownBlock)) (.slice Ao44 t415.length co44) t415) := ⟨by rw [← hq_]; exact (rr_ HO417.out)⟩; replace HO421 : Aside0 (Kd.R k37 37 w48 w.heap.size (fun k_ => (True ∧ some k_ ≠ (.slice Ao37 t407.length co37 : Value).ownBlock)) (.slice Ao47 t419.length co47) t419) := ⟨by rw [← hq_]; exact (rr_ HO421.out)⟩; replace HO424 : Aside0 (Kd.R (Kd.int .i64) 3 w48 w.heap.size (fun k_ => (((True ∧ some k_ ≠ (.slice Ao36 t404.length co36 : Value).ownBlock) ∧ some k_ ≠ (.slice Ao50 t410.length co50 : Value).ownBlock) ∧ some k_ ≠ (.slice Ao44 t415.length co44 : Value).ownBlock)) (.slice Ao49 t422.length co49) t422) := ⟨by rw [← hq_]; exact (rr_ HO424.out)⟩; replace BK399 : Aside0 (w48.heap[gb399]? = some (.cells #[.int .i64 a0_0, .int .i64 a0_1, .slice A0_2 l0_2.length c0_2] 39 (0, 0))) := ⟨by rw [← hq_]; exact (bk_ BK399.out)⟩; replace BK418 : Aside0 (w48.heap[gb418]? = some (.cells #[.int .i64 t413, .int .i64 t414, .slice Ao44 t415.length co44] 43 (0, 0))) := ⟨by rw [← hq_]; exact (bk_ BK418.out)⟩; replace HB : Aside0 (Below w.heap.size w w48) := ⟨by rw [← hq_]; exact qz1⟩; clear hq_))
 replace HO406 := aM (Kd.R_drew HO406.out)
 replace HO409 := aM (Kd.R_drew HO409.out)
 replace HO412 := aM (Kd.R_drew HO412.out)
 replace HO417 := aM (Kd.R_drew HO417.out)
 replace HO421 := aM (Kd.R_drew HO421.out)
 replace HO424 := aM (Kd.R_drew HO424.out)
 replace BK399 := aM (blk_drew BK399.out)
 replace BK418 := aM (blk_drew BK418.out)
 replace HB := aM (below_drew1 HB.out)
 refine start_ (n := 5) (S := fun w' => w'.cell? ⟨gb418, 0, none⟩ = some (.int .i64 t413) ∧ w'.cell? ⟨gb418, 1, none⟩ = some (.int .i64 t414) ∧ w'.cell? ⟨gb418, 2, none⟩ = some (.slice Ao44 t415.length co44) ∧ w'.cell? ⟨gb399, 0, none⟩ = some (.int .i64 a0_0) ∧ w'.cell? ⟨gb399, 1, none⟩ = some (.int .i64 a0_1) ∧ w'.cell? ⟨gb399, 2, none⟩ = some (.slice A0_2 l0_2.length c0_2)) (ds := []) #[false, false, false, false, false] (by kernel_rfl) rfl rfl ⟨(blk_cell BK418.out 0).trans rfl, (blk_cell BK418.out 1).trans rfl, (blk_cell BK418.out 2).trans rfl, (blk_cell BK399.out 0).trans rfl, (blk_cell BK399.out 1).trans rfl, (blk_cell BK399.out 2).trans rfl⟩ (fun hHeld => ?_)
 generalize w48.drew = w51 at HO406 HO409 HO412 HO417 HO421 HO424 BK399 BK418 HB hHeld ⊢
 refine take_ (i := 0) (N := some 40) (v := ?_) (a' := ?_) #[true, false, false, false, false] rfl rfl (by kernel_rfl) qzd (Or.inl ⟨by rfl, ?_⟩) hHeld ?_ ?_
 rotate_left
 {
 rintro w' ⟨s0, s1, s2, s3, s4, s5⟩
 go_simp
 with_reducible rfl
 }
 rotate_left
 {
 simp only [qzs]
 rfl
 }
 refine take_ (i := 1) (N := some 41) (v := ?_) (a' := ?_) #[true, true, false, false, false] rfl rfl (by kernel_rfl) qzd (Or.inl ⟨by rfl, ?_⟩) hHeld ?_ ?_
 rotate_left
 {
 rintro w' ⟨s0, s1, s2, s3, s4, s5⟩
 go_simp
 with_reducible rfl
 }
 rotate_left
 {
 simp only [qzs]
 rfl
 }
 refine one_ (i := 2) (N := some 42) #[true, true, true, false, false] rfl rfl (by kernel_rfl) (by decide) (fun K hK => ?_)
 refine goes_ Try.func27 (by kernel_rfl) rfl #[.agg #[.int .i64 a0_0, .int .i64 a0_1, .slice A0_2 l0_2.length c0_2]] (by rfl) rfl rfl qz2 ?_
 with_reducible refine (laws_toFloor.calls k a0_0 a0_1 _ _ l0_2 t426 t427 t428 _ ?side1 ?side2 A21.out).mono ?_
 (case side1 => exact qz3)
 (case side2 => exact qz15)
 rintro e w52 ⟨v429, rfl, ho0, hb⟩
 refine ⟨_, rfl, ?_⟩
 replace HO409 := aM (Kd.R_below (rr_ HO409.out) hb)
 replace HO421 := aM (Kd.R_below (rr_ HO421.out) hb)
 have HO430 := aM (Kd.R_lower (Kd.R_new' (Kd.R_new' (Kd.R_new' (Kd.R_new' ho0 (Kd.R_lt (rr_ HO406.out))) (Kd.R_lt (rr_ HO412.out))) (Kd.R_lt (rr_ HO417.out))) (Kd.R_lt (rr_ HO424.out))) (below_size qz1))
 replace HO406 := aM (Kd.R_elder' (rr_ HO406.out) (Kd.R_base ho0) hb)
 replace HO412 := aM (Kd.R_elder' (rr_ HO412.out) (Kd.R_base ho0) hb)
 replace HO417 := aM (Kd.R_elder' (rr_ HO417.out) (Kd.R_base ho0) hb)
 replace HO424 := aM (Kd.R_elder' (rr_ HO424.out) (Kd.R_base ho0) hb)
 replace BK399 := bB_ BK399 hb
 replace BK418 := bB_ BK418 hb
 replace HB := bS_ hb
 (try clear hb)
 (try clear hb2)
 (try clear hk)
 (try clear hi)
 (try clear ho0)
 obtain ⟨Ao53, co53, eo53⟩ := Kd.R_slice HO430.out
 (first | subst eo53 | (injection eo53 with f1_ f2_ f3_; have f4_ := f1_.symm; have f5_ := f3_.symm; clear f1_ f2_ f3_; subst f4_; subst f5_))
 refine hK.out _ _ ⟨(blk_cell BK418.out 0).trans rfl, (blk_cell BK418.out 1).trans rfl, (blk_cell BK418.out 2).trans rfl, (blk_cell BK399.out 0).trans rfl, (blk_cell BK399.out 1).trans rfl, (blk_cell BK399.out 2).trans rfl⟩ (fun hHeld => ?_)
 clear hK K
 refine nm_ 42 ?_
 refine one_ (i := 3) (N := some 43) #[true, true, true, true, false] rfl rfl (by kernel_rfl) (by decide) (fun K hK => ?_)
 refine goes_ Try.func30 (by kernel_rfl) rfl #[.agg #[.int .i64 t413, .int .i64 t414, .slice Ao44 t415.length co44], .agg #[.int .i64 t426, .int .i64 t427, .slice Ao53 t428.length co53]] (by rfl) rfl rfl qz2 ?_
 with_reducible refine (laws_eqFloor.calls k t413 t414 _ _ t415 t426 t427 _ _ t428 true _ ?side1 ?side2 ?side3 ?side4 A22.out).mono ?_
 (case side1 => repeat (first | exact (Kd.R_reads' HO417.out).2.2 | (with_reducible refine Kd.C_alloc ?_ _) | (with_reducible refine Kd.C_drewN ?_ _) | (with_reducible refine Kd.C_drew ?_)))
 (case side2 => exact (Kd.R_reads' HO417.out).2.1)
 (case side3 => repeat (first | exact (Kd.R_reads' HO430.out).2.2 | (with_reducible refine Kd.C_alloc ?_ _) | (with_reducible refine Kd.C_drewN ?_ _) | (with_reducible refine Kd.C_drew ?_)))
 (case side4 => exact (Kd.R_reads' HO430.out).2.1)
 rintro e w54 ⟨rfl, hb⟩
 refine ⟨_, rfl, ?_⟩
 replace HO406 := aM (Kd.R_below (rr_ HO406.out) hb)
 replace HO409 := aM (Kd.R_below (rr_ HO409.out) hb)
 replace HO412 := aM (Kd.R_below (rr_ HO412.out) hb)
 replace HO417 := aM (Kd.R_below (rr_ HO417.out) hb)
 replace HO421 := aM (Kd.R_below (rr_ HO421.out) hb)
 replace HO424 := aM (Kd.R_below (rr_ HO424.out) hb)
 replace HO430 := aM (Kd.R_below (rr_ HO430.out) hb)
 replace BK399 := bB_ BK399 hb
 replace BK418 := bB_ BK418 hb
 replace HB := bS_ hb
 (try clear hb)
 (try clear hb2)
 (try clear hk)
 (try clear hi)
 refine hK.out _ _ ⟨(blk_cell BK418.out 0).trans rfl, (blk_cell BK418.out 1).trans rfl, (blk_cell BK418.out 2).trans rfl, (blk_cell BK399.out 0).trans rfl, (blk_cell BK399.out 1).trans rfl, (blk_cell BK399.out 2).trans rfl⟩ (fun hHeld => ?_)
 clear hK K
 refine nm_ 43 ?_
 refine pure_ (i := 4) (N := some 44) (v := ?_) (a' := ?_) #[true, true, true, true, true] rfl rfl (by kernel_rfl) qzd (Or.inl ⟨by rfl, ?_⟩) ?_ ?_
 rotate_left
 {
 intro w'
 go_simp
 with_reducible rfl
 }
 rotate_left
 {
 simp only [qzs]
 rfl
 }
 refine done_ (by kernel_rfl) ?_
 go_upto_region 21 with (first | ((with_reducible refine gate_callee (f := 16) rfl ?_); refine goesL_ (some 47) rfl rfl Try.func16 (by kernel_rfl) rfl #[.slice A1 l1.length c1] rfl qz2 ?_; (with_reducible refine (laws_toRobotS.calls k _ _ l1 t432 _ ?side1 ?side2 A24.out).mono ?_); (case side1 => exact qz7); (case side2 => exact HC1.out); rintro e w55 ⟨v433, rfl, ho0, hb⟩; refine ⟨_, rfl, ?_⟩; replace HO406 := aM (Kd.R_below (rr_ HO406.out) hb); replace HO412 := aM (Kd.R_below (rr_ HO412.out) hb); replace HO417 := aM (Kd.R_below (rr_ HO417.out) hb); replace HO424 := aM (Kd.R_below (rr_ HO424.out) hb); replace HO430 := aM (Kd.R_below (rr_ HO430.out) hb); have HO434 := aM (Kd.R_lower (Kd.R_new' (Kd.R_new' ho0 (Kd.R_lt (rr_ HO409.out))) (Kd.R_lt (rr_ HO421.out))) (below_size qz1)); replace HO409 := aM (Kd.R_elder' (rr_ HO409.out) (Kd.R_base ho0) hb); replace HO421 := aM (Kd.R_elder' (rr_ HO421.out) (Kd.R_base ho0) hb); replace BK399 := bB_ BK399 hb; replace BK418 := bB_ BK418 hb; replace HB := bS_ hb; (try clear hb ho0); obtain ⟨Ao56, co56, eo56⟩ := Kd.R_slice HO434.out; subst eo56) | ((with_reducible refine gate_callee (f := 19) rfl ?_); refine goesL_ (some 48) rfl rfl Try.func19 (by kernel_rfl) rfl #[.slice Ao47 t419.length co47, .slice Ao56 t432.length co56] rfl qz2 ?_; (with_reducible refine (laws_eqRobotS.calls k _ _ t419 _ _ t432 true _ ?side1 ?side2 ?side3 ?side4 A25.out).mono ?_); (case side1 => repeat (first | exact (Kd.R_reads' HO421.out).2.2 | (with_reducible refine Kd.C_alloc ?_ _) | (with_reducible refine Kd.C_drewN ?_ _) | (with_reducible refine Kd.C_drew ?_))); (case side2 => exact (Kd.R_reads' HO421.out).2.1); (case side3 => repeat (first | exact (Kd.R_reads' HO434.out).2.2 | (with_reducible refine Kd.C_alloc ?_ _) | (with_reducible refine Kd.C_drewN ?_ _) | (with_reducible refine Kd.C_drew ?_))); (case side4 => exact (Kd.R_reads' HO434.out).2.1); rintro e w57 ⟨rfl, hb⟩; refine ⟨_, rfl, ?_⟩; replace HO406 := aM (Kd.R_below (rr_ HO406.out) hb); replace HO409 := aM (Kd.R_below (rr_ HO409.out) hb); replace HO412 := aM (Kd.R_below (rr_ HO412.out) hb); replace HO417 := aM (Kd.R_below (rr_ HO417.out) hb); replace HO421 := aM (Kd.R_below (rr_ HO421.out) hb); replace HO424 := aM (Kd.R_below (rr_ HO424.out) hb); replace HO430 := aM (Kd.R_below (rr_ HO430.out) hb); replace HO434 := aM (Kd.R_below (rr_ HO434.out) hb); replace BK399 := bB_ BK399 hb; replace BK418 := bB_ BK418 hb; replace HB := bS_ hb; (try clear hb); obtain ⟨hcz58_0, hcz58_1, hcz58_2, hfz58_0, hfz58_1, hfz58_2⟩ := b6_ BK418.out) | ((with_reducible refine gate_callee (f := 31) rfl ?_); refine goesL_ (some 52) rfl rfl Try.func31 (by kernel_rfl) rfl #[.agg #[.int .i64 t413, .int .i64 t414, .slice Ao44 t415.length co44], .int .i64 1] rfl qz2 ?_; (with_reducible refine (laws_markFloor.calls k t413 t414 (fun k_ => some k_ = (.slice Ao44 t415.length co44 : Value).ownBlock) (.slice Ao44 t415.length co44) t415 1 t436 t437 w _ ?side1 ?side2 A27.out).mono ?_); (case side1 => exact qz1); (case side2 => exact Kd.R_tight rfl HO417.out); rintro e w59 ⟨rfl, hy0, hb, hkp⟩; refine ⟨_, rfl, ?_⟩; replace BK399 := aM (blk_kept (bk_ BK399.out) hkp (fun hs_ => (fun e_ => (Kd.R_ne HO417.out BK399.out (by decide)) e_) hs_)); replace HO406 := aM (Kd.R_mono (ok' := fun k_ => some k_ ≠ (.slice Ao50 t410.length co50 : Value).ownBlock ∧ some k_ ≠ (.slice Ao44 t415.length co44 : Value).ownBlock ∧ some k_ ≠ (.slice Ao49 t422.length co49 : Value).ownBlock ∧ some k_ ≠ (.slice Ao53 t428.length co53 : Value).ownBlock) (Kd.R_keptB (HO406.out) hkp (fun k_ hk_ hs_ => (hk_.1.1.2) hs_)) (fun k_ hk_ => ⟨hk_.1.1.1.1.2, hk_.1.1.1.2, hk_.1.1.2, hk_.1.2⟩)); replace HO409 := aM (Kd.R_mono (ok' := fun k_ => some k_ ≠ (.slice Ao47 t419.length co47 : Value).ownBlock ∧ some k_ ≠ (.slice Ao56 t432.length co56 : Value).ownBlock) (Kd.R_keptB ((Kd.R_apart' HO409.out (Kd.R_typed HO417.out) (by decide))) hkp (fun k_ hk_ hs_ => (hk_.2) hs_)) (fun k_ hk_ => ⟨hk_.1.1.1.2, hk_.1.1.2⟩)); replace HO412 := aM (Kd.R_mono (ok' := fun k_ => some k_ ≠ (.slice Ao36 t404.length co36 : Value).ownBlock ∧ some k_ ≠ (.slice Ao44 t415.length co44 : Value).ownBlock ∧ some k_ ≠ (.slice Ao49 t422.length co49 : Value).ownBlock ∧ some k_ ≠ (.slice Ao53 t428.length co53 : Value).ownBlock) (Kd.R_keptB (HO412.out) hkp (fun k_ hk_ hs_ => (hk_.1.1.2) hs_)) (fun k_ hk_ => ⟨hk_.1.1.1.1.2, hk_.1.1.1.2, hk_.1.1.2, hk_.1.2⟩)); replace BK418 := aM (blk_kept (bk_ BK418.out) hkp (fun hs_ => (fun e_ => (Kd.R_ne HO417.out BK418.out (by decide)) e_) hs_)); replace HO421 := aM (Kd.R_mono (ok' := fun k_ => some k_ ≠ (.slice Ao37 t407.length co37 : Value).ownBlock ∧ some k_ ≠ (.slice Ao56 t432.length co56 : Value).ownBlock) (Kd.R_keptB ((Kd.R_apart' HO421.out (Kd.R_typed HO417.out) (by decide))) hkp (fun k_ hk_ hs_ => (hk_.2) hs_)) (fun k_ hk_ => ⟨hk_.1.1.1.2, hk_.1.1.2⟩)); replace HO424 := aM (Kd.R_mono (ok' := fun k_ => some k_ ≠ (.slice Ao36 t404.length co36 : Value).ownBlock ∧ some k_ ≠ (.slice Ao50 t410.length co50 : Value).ownBlock ∧ some k_ ≠ (.slice Ao44 t415.length co44 : Value).ownBlock ∧ some k_ ≠ (.slice Ao53 t428.length co53 : Value).ownBlock) (Kd.R_keptB (HO424.out) hkp (fun k_ hk_ hs_ => (hk_.1.2) hs_)) (fun k_ hk_ => ⟨hk_.1.1.1.1.2, hk_.1.1.1.2, hk_.1.1.2, hk_.1.2⟩)); replace HO430 := aM (Kd.R_mono (ok' := fun k_ => some k_ ≠ (.slice Ao36 t404.length co36 : Value).ownBlock ∧ some k_ ≠ (.slice Ao50 t410.length co50 : Value).ownBlock ∧ some k_ ≠ (.slice Ao44 t415.length co44 : Value).ownBlock ∧ some k_ ≠ (.slice Ao49 t422.length co49 : Value).ownBlock) (Kd.R_keptB (HO430.out) hkp (fun k_ hk_ hs_ => (hk_.1.2) hs_)) (fun k_ hk_ => ⟨hk_.1.1.1.1.2, hk_.1.1.1.2, hk_.1.1.2, hk_.1.2⟩)); replace HO434 := aM (Kd.R_mono (ok' := fun k_ => some k_ ≠ (.slice Ao37 t407.length co37 : Value).ownBlock ∧ some k_ ≠ (.slice Ao47 t419.length co47 : Value).ownBlock) (Kd.R_keptB ((Kd.R_apart' HO434.out (Kd.R_typed HO417.out) (by decide))) hkp (fun k_ hk_ hs_ => (hk_.2) hs_)) (fun k_ hk_ => ⟨hk_.1.1.1.2, hk_.1.1.2⟩)); replace HO417 := aM (Kd.R_reok rfl hy0 (fun k_ e_ => HO417.out.1 k_ e_)); replace HB := aM (hb); (try clear hb); (try clear hkp); (try clear hy0)) | ((with_reducible refine gate_callee (f := 20) rfl ?_); refine goesL_ (some 55) rfl rfl Try.func20 (by kernel_rfl) rfl #[.slice Ao47 t419.length co47, .int .i64 t436] rfl qz2 ?_; (with_reducible refine (laws_markRobotS.calls k (fun k_ => some k_ = (.slice Ao47 t419.length co47 : Value).ownBlock) (.slice Ao47 t419.length co47) t419 t436 t438 t439 w _ ?side1 ?side2 A28.out).mono ?_); (case side1 => exact qz1); (case side2 => exact Kd.R_tight rfl HO421.out); rintro e w60 ⟨rfl, hy0, hb, hkp⟩; refine ⟨_, rfl, ?_⟩; replace BK399 := aM (blk_kept (bk_ BK399.out) hkp (fun hs_ => (fun e_ => (Kd.R_ne HO421.out BK399.out (by decide)) e_) hs_)); replace HO406 := aM (Kd.R_mono (ok' := fun k_ => some k_ ≠ (.slice Ao50 t410.length co50 : Value).ownBlock ∧ some k_ ≠ (.slice Ao44 t415.length co44 : Value).ownBlock ∧ some k_ ≠ (.slice Ao49 t422.length co49 : Value).ownBlock ∧ some k_ ≠ (.slice Ao53 t428.length co53 : Value).ownBlock) (Kd.R_keptB ((Kd.R_apart' HO406.out (Kd.R_typed HO421.out) (by decide))) hkp (fun k_ hk_ hs_ => (hk_.2) hs_)) (fun k_ hk_ => ⟨hk_.1.1.1, hk_.1.1.2.1, hk_.1.1.2.2.1, hk_.1.1.2.2.2⟩)); replace HO409 := aM (Kd.R_mono (ok' := fun k_ => some k_ ≠ (.slice Ao47 t419.length co47 : Value).ownBlock ∧ some k_ ≠ (.slice Ao56 t432.length co56 : Value).ownBlock) (Kd.R_keptB (HO409.out) hkp (fun k_ hk_ hs_ => (hk_.1) hs_)) (fun k_ hk_ => ⟨hk_.1.1, hk_.1.2⟩)); replace HO412 := aM (Kd.R_mono (ok' := fun k_ => some k_ ≠ (.slice Ao36 t404.length co36 : Value).ownBlock ∧ some k_ ≠ (.slice Ao44 t415.length co44 : Value).ownBlock ∧ some k_ ≠ (.slice Ao49 t422.length co49 : Value).ownBlock ∧ some k_ ≠ (.slice Ao53 t428.length co53 : Value).ownBlock) (Kd.R_keptB ((Kd.R_apart' HO412.out (Kd.R_typed HO421.out) (by decide))) hkp (fun k_ hk_ hs_ => (hk_.2) hs_)) (fun k_ hk_ => ⟨hk_.1.1.1, hk_.1.1.2.1, hk_.1.1.2.2.1, hk_.1.1.2.2.2⟩)); replace HO417 := aM (Kd.R_mono (ok' := fun k_ => some k_ ≠ (.slice Ao36 t404.length co36 : Value).ownBlock ∧ some k_ ≠ (.slice Ao50 t410.length co50 : Value).ownBlock ∧ some k_ ≠ (.slice Ao49 t422.length co49 : Value).ownBlock ∧ some k_ ≠ (.slice Ao53 t428.length co53 : Value).ownBlock) (Kd.R_keptB ((Kd.R_apart' HO417.out (Kd.R_typed HO421.out) (by decide))) hkp (fun k_ hk_ hs_ => (hk_.2) hs_)) (fun k_ hk_ => ⟨hk_.1.1.1.1.1.2, hk_.1.1.1.1.2, hk_.1.1.1.2, hk_.1.1.2⟩)); replace BK418 := aM (blk_kept (bk_ BK418.out) hkp (fun hs_ => (fun e_ => (Kd.R_ne HO421.out BK418.out (by decide)) e_) hs_)); replace HO424 := aM (Kd.R_mono (ok' := fun k_ => some k_ ≠ (.slice Ao36 t404.length co36 : Value).ownBlock ∧ some k_ ≠ (.slice Ao50 t410.length co50 : Value).ownBlock ∧ some k_ ≠ (.slice Ao44 t415.length co44 : Value).ownBlock ∧ some k_ ≠ (.slice Ao53 t428.length co53 : Value).ownBlock) (Kd.R_keptB ((Kd.R_apart' HO424.out (Kd.R_typed HO421.out) (by decide))) hkp (fun k_ hk_ hs_ => (hk_.2) hs_)) (fun k_ hk_ => ⟨hk_.1.1.1, hk_.1.1.2.1, hk_.1.1.2.2.1, hk_.1.1.2.2.2⟩)); replace HO430 := aM (Kd.R_mono (ok' := fun k_ => some k_ ≠ (.slice Ao36 t404.length co36 : Value).ownBlock ∧ some k_ ≠ (.slice Ao50 t410.length co50 : Value).ownBlock ∧ some k_ ≠ (.slice Ao44 t415.length co44 : Value).ownBlock ∧ some k_ ≠ (.slice Ao49 t422.length co49 : Value).ownBlock) (Kd.R_keptB ((Kd.R_apart' HO430.out (Kd.R_typed HO421.out) (by decide))) hkp (fun k_ hk_ hs_ => (hk_.2) hs_)) (fun k_ hk_ => ⟨hk_.1.1.1, hk_.1.1.2.1, hk_.1.1.2.2.1, hk_.1.1.2.2.2⟩)); replace HO421 := aM (Kd.R_reok rfl hy0 (fun k_ e_ => HO421.out.1 k_ e_)); replace HO434 := aM (Kd.R_mono (ok' := fun k_ => some k_ ≠ (.slice Ao37 t407.length co37 : Value).ownBlock ∧ some k_ ≠ (.slice Ao47 t419.length co47 : Value).ownBlock) (Kd.R_keptB (HO434.out) hkp (fun k_ hk_ hs_ => (hk_.2) hs_)) (fun k_ hk_ => ⟨hk_.1.1, hk_.1.2⟩)); replace HB := aM (hb); (try clear hb); (try clear hkp); (try clear hy0)))
 (try simp only [Act.put, List.setIfInBounds_toArray, List.set_cons_zero, List.set_cons_succ])
 go_cut [63] (fun v63 wc => ∃ (kq : Nat) (x63_28 : Bool), v63 = .bool x63_28 ∧ Aside0 (laws_FnExactStep.j0 kq l1 t410 t422 x63_28 a0_0 a0_1 l0_2 = some r) ∧ Aside0 (kq ≤ k) ∧ Aside0 (Kd.R (Kd.int .i64) 3 wc w.heap.size (fun k_ => some k_ ≠ ((.slice Ao49 t422.length co49) : Value).ownBlock ∧ some k_ ≠ ((.slice Ao44 t415.length co44) : Value).ownBlock) (.slice Ao50 t410.length co50) t410) ∧ Aside0 (Kd.R (Kd.int .i64) 3 wc w.heap.size (fun k_ => some k_ ≠ ((.slice Ao50 t410.length co50) : Value).ownBlock ∧ some k_ ≠ ((.slice Ao44 t415.length co44) : Value).ownBlock) (.slice Ao49 t422.length co49) t422) ∧ Aside0 (Kd.R (Kd.int .i64) 3 wc w.heap.size (fun k_ => some k_ ≠ ((.slice Ao50 t410.length co50) : Value).ownBlock ∧ some k_ ≠ ((.slice Ao49 t422.length co49) : Value).ownBlock) (.slice Ao44 t415.length co44) t437) ∧ Aside0 (wc.heap[gb399]? = some (.cells #[.int .i64 a0_0, .int .i64 a0_1, (.slice A0_2 l0_2.length c0_2)] 39 (0, 0))) ∧ Aside0 (wc.heap[gb418]? = some (.cells #[.int .i64 t413, .int .i64 t414, (.slice Ao44 t415.length co44)] 43 (0, 0))) ∧ Aside0 (Below w.heap.size w wc))
 case first =>
  have H := HC29.out
  clear HC29
  by_cases c61 : t438 < 0
  {
  rw [if_pos c61] at H
  have c61b0 := decide_eq_true c61
  clear c61
  (first | rw [c61b0] | (simp only [i64_w, i32_w]; rw [c61b0]) | rw [@decide_eq_true _ _ (of_decide_eq_true c61b0)] | rw [@decide_eq_true _ _ (of_decide_eq_true c61b1)] | skip)
  have H' := aM H
  clear H
  go_wp2
  go_meet
  case rel => exact ⟨_, (true), qz4, H', ⟨by first | omega | exact Nat.le_refl _⟩, ⟨by (with_reducible repeat (first | apply Kd.R_alloc | apply Kd.R_drewN | apply Kd.R_drew)); exact Kd.R_mono HO412.out (fun _ hk => ⟨hk.2.2.1, hk.2.1⟩)⟩, ⟨by (with_reducible repeat (first | apply Kd.R_alloc | apply Kd.R_drewN | apply Kd.R_drew)); exact Kd.R_mono HO424.out (fun _ hk => ⟨hk.2.1, hk.2.2.1⟩)⟩, ⟨by (with_reducible repeat (first | apply Kd.R_alloc | apply Kd.R_drewN | apply Kd.R_drew)); exact Kd.R_mono HO417.out (fun _ hk => ⟨hk.2.1, hk.2.2.1⟩)⟩, ⟨bk_ BK399.out⟩, ⟨bk_ BK418.out⟩, ⟨qz1⟩⟩
  }
  {
  rw [if_neg c61] at H
  have c61b0 := decide_eq_false c61
  clear c61
  (first | rw [c61b0] | (simp only [i64_w, i32_w]; rw [c61b0]) | rw [@decide_eq_false _ _ (of_decide_eq_false c61b0)] | rw [@decide_eq_false _ _ (of_decide_eq_false c61b1)] | skip)
  replace H := Option.bind_eq_some_iff.mp H
  obtain ⟨t440, A620, H⟩ := H
  replace H : (laws_FnExactStep.j0 k l1 t410 t422 (!t440) a0_0 a0_1 l0_2) = some r := H
  have A62 := aM A620
  clear A620
  have H' := aM H
  clear H
  go_wp2_with (first | (go_at_call 18; (with_reducible refine (laws_eqIntS.calls k _ _ t422 _ _ t410 t440 _ ?side1 ?side2 ?side3 ?side4 A62.out).mono ?_); (case side1 => repeat (first | exact (Kd.R_reads' HO424.out).2.2 | (with_reducible refine Kd.C_alloc ?_ _) | (with_reducible refine Kd.C_drewN ?_ _) | (with_reducible refine Kd.C_drew ?_))); (case side2 => exact (Kd.R_reads' HO424.out).2.1); (case side3 => repeat (first | exact (Kd.R_reads' HO412.out).2.2 | (with_reducible refine Kd.C_alloc ?_ _) | (with_reducible refine Kd.C_drewN ?_ _) | (with_reducible refine Kd.C_drew ?_))); (case side4 => exact (Kd.R_reads' HO412.out).2.1); rintro e w' ⟨rfl, ⟨nd, rfl⟩⟩))
  go_meet
  case rel => exact ⟨_, (!t440), qz4, H', ⟨by first | omega | exact Nat.le_refl _⟩, ⟨by (with_reducible repeat (first | apply Kd.R_alloc | apply Kd.R_drewN | apply Kd.R_drew)); exact Kd.R_mono HO412.out (fun _ hk => ⟨hk.2.2.1, hk.2.1⟩)⟩, ⟨by (with_reducible repeat (first | apply Kd.R_alloc | apply Kd.R_drewN | apply Kd.R_drew)); exact Kd.R_mono HO424.out (fun _ hk => ⟨hk.2.1, hk.2.2.1⟩)⟩, ⟨by (with_reducible repeat (first | apply Kd.R_alloc | apply Kd.R_drewN | apply Kd.R_drew)); exact Kd.R_mono HO417.out (fun _ hk => ⟨hk.2.1, hk.2.2.1⟩)⟩, ⟨bk_ BK399.out⟩, ⟨bk_ BK418.out⟩, ⟨qz1⟩⟩
  }
 case rest =>
  clear HC29
  try clear c1
  try clear c2
  try clear p2
  try clear c3
  try clear c4
  try clear c4b0
  try clear c6
  try clear c9
  try clear c9b0
  try clear c14
  try clear c16
  try clear c18
  try clear c19
  try clear c20
  try clear c23
  try clear c25
  try clear c26
  try clear c27
  try clear c30
  try clear c31
  try clear c41
  try clear c42
  try clear c61
  try clear c61b0
  try clear c61b1
  try clear hcz11_0 hcz11_1 hcz11_2 hfz11_0 hfz11_1 hfz11_2
  try clear hcz31_0 hcz31_1 hcz31_2 hfz31_0 hfz31_1 hfz31_2
  try clear hcz33_0 hcz33_1 hcz33_2 hfz33_0 hfz33_1 hfz33_2
  try clear hcz39_0 hcz39_1 hcz39_2 hfz39_0 hfz39_1 hfz39_2
  try clear hcz43_0 hcz43_1 hcz43_2 hfz43_0 hfz43_1 hfz43_2
  try clear hcz46_0 hcz46_1 hcz46_2 hfz46_0 hfz46_1 hfz46_2
  try clear hcz58_0 hcz58_1 hcz58_2 hfz58_0 hfz58_1 hfz58_2
  try clear hcz6_0 hcz6_1 hcz6_2 hfz6_0 hfz6_1 hfz6_2
  obtain ⟨kq, x63_28, rfl, HA, HJ28, HO_6, HO_9, HO_419002, BK399, BK418, HB⟩ := hcut
  have hl419002_28 := (Kd.R_reads' HO_419002.out).1
  rw [hl419002_28] at HO_419002
  (try simp only [hl419002_28])
  (try simp only [hl419002_28] at BK399)
  (try simp only [hl419002_28] at BK418)
  (try simp only [hl419002_28] at HO_6)
  (try simp only [hl419002_28] at HO_9)
  cases kq with
  | zero => exact absurd HA.out (by simp [laws_FnExactStep.j0])
  | succ kj28 =>
   have H := HA.out
   clear HA
   simp only [laws_FnExactStep.j0] at H
   by_cases c63 : x63_28 = true
   {
   subst c63
   rw [if_pos rfl] at H
   obtain rfl := Option.some.inj H
   exact absurd HTR_.out (by decide)
   }
   {
   replace c63 := Bool.eq_false_iff.mpr c63
   subst c63
   rw [if_neg (show ¬ (false = true) by decide)] at H
   replace H := Option.bind_eq_some_iff.mp H
   obtain ⟨⟨t441, t442⟩, A640, H⟩ := H
   replace H : ((laws_heldIntS.f kj28 t442 1).bind fun t443 => (if t443 < 0 then (some false) else (if t443 = t441 then ((laws_toFloor.f kj28 a0_0 a0_1 l0_2).bind fun bt444 => ((laws_toRobotS.f kj28 l1).bind fun t449 => ((impl_Step.f kj28 bt444.1 bt444.2.1 bt444.2.2 t449).bind fun t452 => ((laws_eqIntS.f kj28 t452 t410).bind fun t455 => (if t455 = true then ((laws_heldIntS.f kj28 t442 1).bind fun t456 => (if t456 < 0 then (some false) else (if t456 = t441 then (some true) else (some false)))) else (some false)))))) else (some false)))) = some r := H
   have A64 := aM A640
   clear A640
   replace H := Option.bind_eq_some_iff.mp H
   obtain ⟨t443, A650, H⟩ := H
   replace H : (if t443 < 0 then (some false) else (if t443 = t441 then ((laws_toFloor.f kj28 a0_0 a0_1 l0_2).bind fun bt444 => ((laws_toRobotS.f kj28 l1).bind fun t449 => ((impl_Step.f kj28 bt444.1 bt444.2.1 bt444.2.2 t449).bind fun t452 => ((laws_eqIntS.f kj28 t452 t410).bind fun t455 => (if t455 = true then ((laws_heldIntS.f kj28 t442 1).bind fun t456 => (if t456 < 0 then (some false) else (if t456 = t441 then (some true) else (some false)))) else (some false)))))) else (some false))) = some r := H
   have A65 := aM A650
   clear A650
   by_cases c66 : t443 < 0
   {
   rw [if_pos c66] at H
   have c66b0 := decide_eq_true c66
   clear c66
   obtain rfl := Option.some.inj H
   exact absurd HTR_.out (by decide)
   }
   {
   rw [if_neg c66] at H
   have c66b0 := decide_eq_false c66
   clear c66
   by_cases c67 : t443 = t441
   {
   rw [if_pos c67] at H
   have c67b0 := beq_iff_eq.mpr c67
   have c67b1 := bne_eq_false_iff_eq.mpr c67
   clear c67
   replace H := Option.bind_eq_some_iff.mp H
   obtain ⟨⟨t444, t445, t446⟩, A680, H⟩ := H
   replace H : ((laws_toRobotS.f kj28 l1).bind fun t449 => ((impl_Step.f kj28 t444 t445 t446 t449).bind fun t452 => ((laws_eqIntS.f kj28 t452 t410).bind fun t455 => (if t455 = true then ((laws_heldIntS.f kj28 t442 1).bind fun t456 => (if t456 < 0 then (some false) else (if t456 = t441 then (some true) else (some false)))) else (some false))))) = some r := H
   have A68 := aM A680
   clear A680
   replace H := Option.bind_eq_some_iff.mp H
   obtain ⟨t449, A690, H⟩ := H
   replace H : ((impl_Step.f kj28 t444 t445 t446 t449).bind fun t452 => ((laws_eqIntS.f kj28 t452 t410).bind fun t455 => (if t455 = true then ((laws_heldIntS.f kj28 t442 1).bind fun t456 => (if t456 < 0 then (some false) else (if t456 = t441 then (some true) else (some false)))) else (some false)))) = some r := H
   have A69 := aM A690
   clear A690
   replace H := Option.bind_eq_some_iff.mp H
   obtain ⟨t452, A700, H⟩ := H
   replace H : ((laws_eqIntS.f kj28 t452 t410).bind fun t455 => (if t455 = true then ((laws_heldIntS.f kj28 t442 1).bind fun t456 => (if t456 < 0 then (some false) else (if t456 = t441 then (some true) else (some false)))) else (some false))) = some r := H
   have A70 := aM A700
   clear A700
   replace H := Option.bind_eq_some_iff.mp H
   obtain ⟨t455, A710, H⟩ := H
   replace H : (if t455 = true then ((laws_heldIntS.f kj28 t442 1).bind fun t456 => (if t456 < 0 then (some false) else (if t456 = t441 then (some true) else (some false)))) else (some false)) = some r := H
   have A71 := aM A710
   clear A710
   by_cases c72 : t455 = true
   {
   subst c72
   rw [if_pos rfl] at H
   replace H := Option.bind_eq_some_iff.mp H
   obtain ⟨t456, A730, H⟩ := H
   replace H : (if t456 < 0 then (some false) else (if t456 = t441 then (some true) else (some false))) = some r := H
   have A73 := aM A730
   clear A730
   by_cases c74 : t456 < 0
   {
   rw [if_pos c74] at H
   have c74b0 := decide_eq_true c74
   clear c74
   obtain rfl := Option.some.inj H
   exact absurd HTR_.out (by decide)
   }
   {
   rw [if_neg c74] at H
   have c74b0 := decide_eq_false c74
   clear c74
   by_cases c75 : t456 = t441
   {
   rw [if_pos c75] at H
   have c75b0 := beq_iff_eq.mpr c75
   have c75b1 := bne_eq_false_iff_eq.mpr c75
   clear c75
   obtain rfl := Option.some.inj H
   simp only [Option.some.injEq, Prod.mk.injEq] at H
   obtain ⟨rfl⟩ := H
   go_wp2_with (first | ((with_reducible refine gate_callee (f := 21) rfl ?_); refine goesL_ (some 66) rfl rfl Try.func21 (by kernel_rfl) rfl #[.slice Ao49 t422.length co49, .int .i64 1] rfl qz2 ?_; (with_reducible refine (laws_markIntS.calls kj28 (fun k_ => some k_ = (.slice Ao49 t422.length co49 : Value).ownBlock) (.slice Ao49 t422.length co49) t422 1 t441 t442 w _ ?side1 ?side2 A64.out).mono ?_); (case side1 => exact qz1); (case side2 => exact Kd.R_tight rfl HO_9.out); rintro e w76 ⟨rfl, hy0, hb, hkp⟩; refine ⟨_, rfl, ?_⟩; replace HO_6 := aM (Kd.R_mono (ok' := fun k_ => some k_ ≠ (.slice Ao49 t422.length co49 : Value).ownBlock ∧ some k_ ≠ (.slice Ao44 t437.length co44 : Value).ownBlock) (Kd.R_keptB (HO_6.out) hkp (fun k_ hk_ hs_ => (hk_.1) hs_)) (fun k_ hk_ => ⟨hk_.1.1, hk_.1.2⟩)); replace HO_419002 := aM (Kd.R_mono (ok' := fun k_ => some k_ ≠ (.slice Ao50 t410.length co50 : Value).ownBlock ∧ some k_ ≠ (.slice Ao49 t422.length co49 : Value).ownBlock) (Kd.R_keptB (HO_419002.out) hkp (fun k_ hk_ hs_ => (hk_.2) hs_)) (fun k_ hk_ => ⟨hk_.1.1, hk_.1.2⟩)); replace BK399 := aM (blk_kept (bk_ BK399.out) hkp (fun hs_ => (fun e_ => (Kd.R_ne HO_9.out BK399.out (by decide)) e_) hs_)); replace BK418 := aM (blk_kept (bk_ BK418.out) hkp (fun hs_ => (fun e_ => (Kd.R_ne HO_9.out BK418.out (by decide)) e_) hs_)); replace HO_9 := aM (Kd.R_reok rfl hy0 (fun k_ e_ => HO_9.out.1 k_ e_)); replace HB := aM (hb); (try clear hb); (try clear hkp); (try clear hy0)) | ((with_reducible refine gate_callee (f := 22) rfl ?_); refine goesL_ (some 69) rfl rfl Try.func22 (by kernel_rfl) rfl #[.slice Ao49 t442.length co49, .int .i64 1] rfl qz14 ?_; (with_reducible refine (laws_heldIntS.calls kj28 _ _ t442 1 t443 _ ?side1 ?side2 A65.out).mono ?_); (case side1 => repeat (first | exact (Kd.R_reads' HO_9.out).2.2 | (with_reducible refine Kd.C_alloc ?_ _) | (with_reducible refine Kd.C_drewN ?_ _) | (with_reducible refine Kd.C_drew ?_))); (case side2 => rw [show t442.length = t422.length from (Kd.R_reads' HO_9.out).1.symm]; exact (Kd.R_reads' HO_9.out).2.1); rintro e w' ⟨rfl, ⟨nd, rfl⟩⟩; refine ⟨_, rfl, ?_⟩; have hnb77 := NB399_418.out; have hnc77 := NB418_399.out; obtain ⟨hcz78_0, hcz78_1, hcz78_2, hfz78_0, hfz78_1, hfz78_2⟩ := b6_ BK399.out) | ((with_reducible refine gate_callee (f := 27) rfl ?_); refine goesL_ (some 76) rfl rfl Try.func27 (by kernel_rfl) rfl #[.agg #[.int .i64 a0_0, .int .i64 a0_1, .slice A0_2 l0_2.length c0_2]] rfl qz2 ?_; (with_reducible refine (laws_toFloor.calls kj28 a0_0 a0_1 _ _ l0_2 t444 t445 t446 _ ?side1 ?side2 A68.out).mono ?_); (case side1 => exact qz17); (case side2 => exact qz15); rintro e w79 ⟨v447, rfl, ho0, hb⟩; refine ⟨_, rfl, ?_⟩; have HO448 := aM (Kd.R_lower (Kd.R_new' (Kd.R_new' (Kd.R_new' ho0 (Kd.R_lt (rr_ HO_6.out))) (Kd.R_lt (rr_ HO_9.out))) (Kd.R_lt (rr_ HO_419002.out))) (below_size qz1)); replace HO_6 := aM (Kd.R_elder' (rr_ HO_6.out) (Kd.R_base ho0) hb); replace HO_9 := aM (Kd.R_elder' (rr_ HO_9.out) (Kd.R_base ho0) hb); replace HO_419002 := aM (Kd.R_elder' (rr_ HO_419002.out) (Kd.R_base ho0) hb); replace BK399 := bB_ BK399 hb; replace BK418 := bB_ BK418 hb; replace HB := bS_ hb; (try clear hb ho0)) | ((with_reducible refine gate_callee (f := 16) rfl ?_); refine goesL_ (some 78) rfl rfl Try.func16 (by kernel_rfl) rfl #[.slice A1 l1.length c1] rfl qz2 ?_; (with_reducible refine (laws_toRobotS.calls kj28 _ _ l1 t449 _ ?side1 ?side2 A69.out).mono ?_); (case side1 => exact qz7); (case side2 => exact HC1.out); rintro e w80 ⟨v450, rfl, ho0, hb⟩; refine ⟨_, rfl, ?_⟩; replace HO_6 := aM (Kd.R_below (rr_ HO_6.out) hb); replace HO_9 := aM (Kd.R_below (rr_ HO_9.out) hb); replace HO_419002 := aM (Kd.R_below (rr_ HO_419002.out) hb); replace HO448 := aM (Kd.R_below (rr_ HO448.out) hb); have HO451 := aM (Kd.R_lower ho0 (below_size qz1)); replace BK399 := bB_ BK399 hb; replace BK418 := bB_ BK418 hb; replace HB := bS_ hb; (try clear hb ho0); obtain ⟨Ao81, co81, eo81⟩ := Kd.R_slice HO448.out; subst eo81; obtain ⟨Ao82, co82, eo82⟩ := Kd.R_slice HO451.out; subst eo82) | ((with_reducible refine gate_callee (f := 42) rfl ?_); refine goesL_ (some 79) rfl rfl Try.func42 (by kernel_rfl) rfl #[.agg #[.int .i64 t444, .int .i64 t445, .slice Ao81 t446.length co81], .slice Ao82 t449.length co82] rfl qz2 ?_; (with_reducible refine (impl_Step.calls kj28 t444 t445 _ _ t446 _ _ t449 t452 _ ?side1 ?side2 ?side3 ?side4 A70.out).mono ?_); (case side1 => repeat (first | exact (Kd.R_reads' HO448.out).2.2 | (with_reducible refine Kd.C_alloc ?_ _) | (with_reducible refine Kd.C_drewN ?_ _) | (with_reducible refine Kd.C_drew ?_))); (case side2 => exact (Kd.R_reads' HO448.out).2.1); (case side3 => repeat (first | exact (Kd.R_reads' HO451.out).2.2 | (with_reducible refine Kd.C_alloc ?_ _) | (with_reducible refine Kd.C_drewN ?_ _) | (with_reducible refine Kd.C_drew ?_))); (case side4 => exact (Kd.R_reads' HO451.out).2.1); rintro e w83 ⟨v453, rfl, ho0, hb⟩; refine ⟨_, rfl, ?_⟩; replace HO451 := aM (Kd.R_below (rr_ HO451.out) hb); have HO454 := aM (Kd.R_lower (Kd.R_new' (Kd.R_new' (Kd.R_new' (Kd.R_new' ho0 (Kd.R_lt (rr_ HO_6.out))) (Kd.R_lt (rr_ HO_9.out))) (Kd.R_lt (rr_ HO_419002.out))) (Kd.R_lt (rr_ HO448.out))) (below_size qz1)); replace HO_6 := aM (Kd.R_elder' (rr_ HO_6.out) (Kd.R_base ho0) hb); replace HO_9 := aM (Kd.R_elder' (rr_ HO_9.out) (Kd.R_base ho0) hb); replace HO_419002 := aM (Kd.R_elder' (rr_ HO_419002.out) (Kd.R_base ho0) hb); replace HO448 := aM (Kd.R_elder' (rr_ HO448.out) (Kd.R_base ho0) hb); replace BK399 := bB_ BK399 hb; replace BK418 := bB_ BK418 hb; replace HB := bS_ hb; (try clear hb ho0); obtain ⟨Ao84, co84, eo84⟩ := Kd.R_slice HO454.out; subst eo84) | ((with_reducible refine gate_callee (f := 18) rfl ?_); refine goesL_ (some 82) rfl rfl Try.func18 (by kernel_rfl) rfl #[.slice Ao84 t452.length co84, .slice Ao50 t410.length co50] rfl qz2 ?_; (with_reducible refine (laws_eqIntS.calls kj28 _ _ t452 _ _ t410 true _ ?side1 ?side2 ?side3 ?side4 A71.out).mono ?_); (case side1 => repeat (first | exact (Kd.R_reads' HO454.out).2.2 | (with_reducible refine Kd.C_alloc ?_ _) | (with_reducible refine Kd.C_drewN ?_ _) | (with_reducible refine Kd.C_drew ?_))); (case side2 => exact (Kd.R_reads' HO454.out).2.1); (case side3 => repeat (first | exact (Kd.R_reads' HO_6.out).2.2 | (with_reducible refine Kd.C_alloc ?_ _) | (with_reducible refine Kd.C_drewN ?_ _) | (with_reducible refine Kd.C_drew ?_))); (case side4 => exact (Kd.R_reads' HO_6.out).2.1); rintro e w' ⟨rfl, ⟨nd, rfl⟩⟩; refine ⟨_, rfl, ?_⟩) | ((with_reducible refine gate_callee (f := 22) rfl ?_); refine goesL_ (some 86) rfl rfl Try.func22 (by kernel_rfl) rfl #[.slice Ao49 t442.length co49, .int .i64 1] rfl qz14 ?_; (with_reducible refine (laws_heldIntS.calls kj28 _ _ t442 1 t456 _ ?side1 ?side2 A73.out).mono ?_); (case side1 => repeat (first | exact (Kd.R_reads' HO_9.out).2.2 | (with_reducible refine Kd.C_alloc ?_ _) | (with_reducible refine Kd.C_drewN ?_ _) | (with_reducible refine Kd.C_drew ?_))); (case side2 => rw [show t442.length = t422.length from (Kd.R_reads' HO_9.out).1.symm]; exact (Kd.R_reads' HO_9.out).2.1); rintro e w' ⟨rfl, ⟨nd, rfl⟩⟩; refine ⟨_, rfl, ?_⟩))
   go_ret
   exact ⟨qzw, qz1⟩
   }
   {
   rw [if_neg c75] at H
   have c75b0 := beq_eq_false_iff_ne.mpr c75
   have c75b1 := bne_iff_ne.mpr c75
   obtain rfl := Option.some.inj H
   exact absurd HTR_.out (by decide)
   }
   }
   }
   {
   replace c72 := Bool.eq_false_iff.mpr c72
   subst c72
   rw [if_neg (show ¬ (false = true) by decide)] at H
   obtain rfl := Option.some.inj H
   exact absurd HTR_.out (by decide)
   }
   }
   {
   rw [if_neg c67] at H
   have c67b0 := beq_eq_false_iff_ne.mpr c67
   have c67b1 := bne_iff_ne.mpr c67
   obtain rfl := Option.some.inj H
   exact absurd HTR_.out (by decide)
   }
   }
   }
 }
 {
 replace c26 := Bool.eq_false_iff.mpr c26
 subst c26
 rw [if_neg (show ¬ (false = true) by decide)] at H
 obtain rfl := Option.some.inj H
 exact absurd HTR_.out (by decide)
 }
 }
 {
 replace c23 := Bool.eq_false_iff.mpr c23
 subst c23
 rw [if_neg (show ¬ (false = true) by decide)] at H
 obtain rfl := Option.some.inj H
 exact absurd HTR_.out (by decide)
 }
 }
 {
 replace c20 := Bool.eq_false_iff.mpr c20
 subst c20
 rw [if_neg (show ¬ (false = true) by decide)] at H
 obtain rfl := Option.some.inj H
 exact absurd HTR_.out (by decide)

 }
 }
 }
end Go.Proofs.Ytankmdbbgepmbaa.PFnExactStep
