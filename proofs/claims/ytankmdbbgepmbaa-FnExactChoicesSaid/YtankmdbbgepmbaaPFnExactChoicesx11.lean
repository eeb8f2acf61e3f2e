-- Made by a program of this session out of the translation. Lean checks it.
import Derived.Test.YtankmdbbgepmbaaPFnExactChoicesx9
import Derived.Test.YtankmdbbgepmbaaPFnExactChoicesx10
namespace Go.Proofs.Ytankmdbbgepmbaa.PFnExactChoices
open Go.RowKit Go.Proofs.YtankmdbbgepmbaaW.PrintWords Go.Proofs.YtankmdbbgepmbaaW.PrintLast Go.Proofs.YtankmdbbgepmbaaW.PrintMore
attribute [local go_sem] max2_int min2_int max_two min_two max_three min_three max_four min_four   -- for this text's walks alone
set_option linter.unusedVariables false
set_option linter.unusedSimpArgs false

/-! ### laws_FnExactChoices: function 5 -/
def laws_FnExactChoices.j0 : Nat → List Int → List Int → Bool → Int → Int → List Int → Int → Int → Int → Bool → Int → Option (Bool)
 | 0, _, _, _, _, _, _, _, _, _, _, _ => none
 | k + 1, x6, x8, x48, x335000, x335001, x335002, x336000, x336001, x336002, x336003, x336004 => if x48 = true then (some false) else ((laws_markIntS.f k x8 1).bind fun bt374 => ((laws_heldIntS.f k bt374.2 1).bind fun t376 => (if t376 < 0 then (some false) else (if t376 = bt374.1 then ((laws_toFloor.f k x335000 x335001 x335002).bind fun bt377 => ((laws_toRobot.f x336000 x336001 x336002 x336003 x336004).bind fun bt382 => ((impl_Choices.f k bt377.1 bt377.2.1 bt377.2.2 bt382.1 bt382.2.1 bt382.2.2.1 bt382.2.2.2.1 bt382.2.2.2.2).bind fun t387 => ((laws_eqIntS.f k t387 x6).bind fun t390 => (if t390 = true then ((laws_heldIntS.f k bt374.2 1).bind fun t391 => (if t391 < 0 then (some false) else (if t391 = bt374.1 then (some true) else (some false)))) else (some false)))))) else (some false)))))
def laws_FnExactChoices.f (k : Nat) (a0_0 : Int) (a0_1 : Int) (l0_2 : List Int) (a1_0 : Int) (a1_1 : Int) (a1_2 : Int) (a1_3 : Bool) (a1_4 : Int) : Option (Bool) := (laws_szFloor.f a0_0 a0_1 l0_2 1048576).bind fun t336 => (if t336 < 0 then (some true) else ((laws_toFloor.f k a0_0 a0_1 l0_2).bind fun bt337 => ((laws_toRobot.f a1_0 a1_1 a1_2 a1_3 a1_4).bind fun bt342 => ((spec_Choices.f k bt337.1 bt337.2.1 bt337.2.2 bt342.1 bt342.2.1 bt342.2.2.1 bt342.2.2.2.1 bt342.2.2.2.2).bind fun t347 => ((laws_toFloor.f k a0_0 a0_1 l0_2).bind fun bt350 => ((laws_toRobot.f a1_0 a1_1 a1_2 a1_3 a1_4).bind fun bt356 => ((impl_Choices.f k bt350.1 bt350.2.1 bt350.2.2 bt356.1 bt356.2.1 bt356.2.2.1 bt356.2.2.2.1 bt356.2.2.2.2).bind fun t361 => ((laws_eqIntS.f k t361 t347).bind fun t364 => (if t364 = true then ((laws_toFloor.f k a0_0 a0_1 l0_2).bind fun bt365 => ((laws_eqFloor.f k bt350.1 bt350.2.1 bt350.2.2 bt365.1 bt365.2.1 bt365.2.2).bind fun t370 => (if t370 = true then ((laws_markFloor.f k bt350.1 bt350.2.1 bt350.2.2 1).bind fun bt371 => (if bt371.1 < 0 then (laws_FnExactChoices.j0 k t347 t361 true a0_0 a0_1 l0_2 a1_0 a1_1 a1_2 a1_3 a1_4) else ((laws_eqIntS.f k t361 t347).bind fun t373 => (laws_FnExactChoices.j0 k t347 t361 (!t373) a0_0 a0_1 l0_2 a1_0 a1_1 a1_2 a1_3 a1_4)))) else (some false)))) else (some false))))))))))
theorem laws_FnExactChoices.mono_l : ∀ k, (∀ y0 y1 y2 y3 y4 y5 y6 y7 y8 y9 y10, LeO (laws_FnExactChoices.j0 k y0 y1 y2 y3 y4 y5 y6 y7 y8 y9 y10) (laws_FnExactChoices.j0 (k + 1) y0 y1 y2 y3 y4 y5 y6 y7 y8 y9 y10))
 | 0 => fun _ _ _ _ _ _ _ _ _ _ _ r h => by simp [laws_FnExactChoices.j0] at h
 | k + 1 => by
  have ih0 := laws_FnExactChoices.mono_l k
  {
  intro y0 y1 y2 y3 y4 y5 y6 y7 y8 y9 y10
  unfold laws_FnExactChoices.j0
  have j0 := @impl_Choices.mono
  have j1 := @laws_eqFloor.mono
  have j2 := @laws_eqIntS.mono
  have j3 := @laws_heldIntS.mono
  have j4 := @laws_markFloor.mono
  have j5 := @laws_markIntS.mono
  have j6 := @laws_toFloor.mono
  have j7 := @spec_Choices.mono
  exact qL
  }
theorem laws_FnExactChoices.mono : ∀ a0 a1 a2 a3 a4 a5 a6 a7 k, LeO (laws_FnExactChoices.f k a0 a1 a2 a3 a4 a5 a6 a7) (laws_FnExactChoices.f (k + 1) a0 a1 a2 a3 a4 a5 a6 a7) := by
 intro a0 a1 a2 a3 a4 a5 a6 a7 k
 have ih0 := laws_FnExactChoices.mono_l k
 unfold laws_FnExactChoices.f
 have j0 := @impl_Choices.mono
 have j1 := @laws_eqFloor.mono
 have j2 := @laws_eqIntS.mono
 have j3 := @laws_heldIntS.mono
 have j4 := @laws_markFloor.mono
 have j5 := @laws_markIntS.mono
 have j6 := @laws_toFloor.mono
 have j7 := @spec_Choices.mono
 exact qL
set_option maxHeartbeats 8000000 in
set_option maxRecDepth 100000 in
theorem laws_FnExactChoices.calls (k : Nat) (a0_0 : Int) (a0_1 : Int) (A0_2 : Option Addr) (c0_2 : Nat) (l0_2 : List Int) (a1_0 : Int) (a1_1 : Int) (a1_2 : Int) (a1_3 : Bool) (a1_4 : Int) (r : Bool) (w : World) (hr0_2 : Kd.C (Kd.int .i64) w A0_2 l0_2.length l0_2) (hc0_2 : l0_2.length ≤ c0_2) (hT : r = true) (h : laws_FnExactChoices.f k a0_0 a0_1 l0_2 a1_0 a1_1 a1_2 a1_3 a1_4 = some r) :
  Calls Try.prog 5 #[.agg #[.int .i64 a0_0, .int .i64 a0_1, .slice A0_2 l0_2.length c0_2], .agg #[.int .i64 a1_0, .int .i64 a1_1, .int .i64 a1_2, .bool a1_3, .int .i64 a1_4]] w fun e w' => e = .returned (.bool r) ∧ Below w.heap.size w w' := by
 have HTR_ := aM hT
 clear hT
 have hu39 := Try.underlying39
 have hu40 := Try.underlying40
 have hu43 := Try.underlying43
 have HR0_2 := aM hr0_2
 have HC0_2 := aM hc0_2
 clear hr0_2 hc0_2
 have HB := aM (Below.refl w.heap.size w)
 have H : ((laws_szFloor.f a0_0 a0_1 l0_2 1048576).bind fun t336 => (if t336 < 0 then (some true) else ((laws_toFloor.f k a0_0 a0_1 l0_2).bind fun bt337 => ((laws_toRobot.f a1_0 a1_1 a1_2 a1_3 a1_4).bind fun bt342 => ((spec_Choices.f k bt337.1 bt337.2.1 bt337.2.2 bt342.1 bt342.2.1 bt342.2.2.1 bt342.2.2.2.1 bt342.2.2.2.2).bind fun t347 => ((laws_toFloor.f k a0_0 a0_1 l0_2).bind fun bt350 => ((laws_toRobot.f a1_0 a1_1 a1_2 a1_3 a1_4).bind fun bt356 => ((impl_Choices.f k bt350.1 bt350.2.1 bt350.2.2 bt356.1 bt356.2.1 bt356.2.2.1 bt356.2.2.2.1 bt356.2.2.2.2).bind fun t361 => ((laws_eqIntS.f k t361 t347).bind fun t364 => (if t364 = true then ((laws_toFloor.f k a0_0 a0_1 l0_2).bind fun bt365 => ((laws_eqFloor.f k bt350.1 bt350.2.1 bt350.2.2 bt365.1 bt365.2.1 bt365.2.2).bind fun t370 => (if t370 = true then ((laws_markFloor.f k bt350.1 bt350.2.1 bt350.2.2 1).bind fun bt371 => (if bt371.1 < 0 then (laws_FnExactChoices.j0 k t347 t361 true a0_0 a0_1 l0_2 a1_0 a1_1 a1_2 a1_3 a1_4) else ((laws_eqIntS.f k t361 t347).bind fun t373 => (laws_FnExactChoices.j0 k t347 t361 (!t373) a0_0 a0_1 l0_2 a1_0 a1_1 a1_2 a1_3 a1_4)))) else (some false)))) else (some false))))))))))) = some r := h
 clear h
 replace H := Option.bind_eq_some_iff.mp H
 obtain ⟨t336, A30, H⟩ := H
 replace H : (if t336 < 0 then (some true) else ((laws_toFloor.f k a0_0 a0_1 l0_2).bind fun bt337 => ((laws_toRobot.f a1_0 a1_1 a1_2 a1_3 a1_4).bind fun bt342 => ((spec_Choices.f k bt337.1 bt337.2.1 bt337.2.2 bt342.1 bt342.2.1 bt342.2.2.1 bt342.2.2.2.1 bt342.2.2.2.2).bind fun t347 => ((laws_toFloor.f k a0_0 a0_1 l0_2).bind fun bt350 => ((laws_toRobot.f a1_0 a1_1 a1_2 a1_3 a1_4).bind fun bt356 => ((impl_Choices.f k bt350.1 bt350.2.1 bt350.2.2 bt356.1 bt356.2.1 bt356.2.2.1 bt356.2.2.2.1 bt356.2.2.2.2).bind fun t361 => ((laws_eqIntS.f k t361 t347).bind fun t364 => (if t364 = true then ((laws_toFloor.f k a0_0 a0_1 l0_2).bind fun bt365 => ((laws_eqFloor.f k bt350.1 bt350.2.1 bt350.2.2 bt365.1 bt365.2.1 bt365.2.2).bind fun t370 => (if t370 = true then ((laws_markFloor.f k bt350.1 bt350.2.1 bt350.2.2 1).bind fun bt371 => (if bt371.1 < 0 then (laws_FnExactChoices.j0 k t347 t361 true a0_0 a0_1 l0_2 a1_0 a1_1 a1_2 a1_3 a1_4) else ((laws_eqIntS.f k t361 t347).bind fun t373 => (laws_FnExactChoices.j0 k t347 t361 (!t373) a0_0 a0_1 l0_2 a1_0 a1_1 a1_2 a1_3 a1_4)))) else (some false)))) else (some false)))))))))) = some r := H
 have A3 := aM A30
 clear A30
 by_cases c4 : t336 < 0
 {
 rw [if_pos c4] at H
 have c4b0 := decide_eq_true c4
 clear c4
 obtain rfl := Option.some.inj H
 simp only [Option.some.injEq, Prod.mk.injEq] at H
 obtain ⟨rfl⟩ := H
 go_enter Try.func5, Try.ntmps5
 go_wp2_with (first | ((with_reducible refine gate_dst (N := 2) rfl ?_); refine bx_ 2 #[.int .i64 a0_0, .int .i64 a0_1, .slice A0_2 l0_2.length c0_2] 39 ?_; intro gb334 hg w5 hbox hb; have BK334 := aM (hbox); have GW334 := aM (bz_ w hg qz1); have GE334 := GW334; replace HB := bS_ hb; clear hb hbox hg) | ((with_reducible refine gate_dst (N := 3) rfl ?_); refine bx_ 3 #[.int .i64 a1_0, .int .i64 a1_1, .int .i64 a1_2, .bool a1_3, .int .i64 a1_4] 40 ?_; intro gb335 hg w6 hbox hb; have BK335 := aM (hbox); have GW335 := aM (bz_ w hg qz1); have GE335 := GW335; replace HB := bS_ hb; obtain ⟨NB334_335, NB335_334⟩ := nb_ hg (bk_ BK334.out); replace BK334 := bB_ BK334 hb; clear hb hbox hg; have hnb7 := NB334_335.out; have hnc7 := NB335_334.out; obtain ⟨hcz8_0, hcz8_1, hcz8_2, hfz8_0, hfz8_1, hfz8_2⟩ := b6_ BK334.out) | ((with_reducible refine gate_callee (f := 25) rfl ?_); refine goesL_ (some 15) rfl rfl Try.func25 (by kernel_rfl) rfl #[.agg #[.int .i64 a0_0, .int .i64 a0_1, .slice A0_2 l0_2.length c0_2], .int .i64 1048576] rfl qz2 ?_; (with_reducible refine (laws_szFloor.calls a0_0 a0_1 _ _ l0_2 1048576 t336 _ ?side1 ?side2 A3.out).mono ?_); (case side1 => exact qz3); (case side2 => exact HC0_2.out); rintro e w9 ⟨rfl, hb⟩; refine ⟨_, rfl, ?_⟩; replace BK334 := bB_ BK334 hb; replace BK335 := bB_ BK335 hb; replace HB := bS_ hb; (try clear hb)))
 go_ret
 exact ⟨qzw, qz1⟩
 }
 {
 rw [if_neg c4] at H
 have c4b0 := decide_eq_false c4
 clear c4
 replace H := Option.bind_eq_some_iff.mp H
 obtain ⟨⟨t337, t338, t339⟩, A100, H⟩ := H
 replace H : ((laws_toRobot.f a1_0 a1_1 a1_2 a1_3 a1_4).bind fun bt342 => ((spec_Choices.f k t337 t338 t339 bt342.1 bt342.2.1 bt342.2.2.1 bt342.2.2.2.1 bt342.2.2.2.2).bind fun t347 => ((laws_toFloor.f k a0_0 a0_1 l0_2).bind fun bt350 => ((laws_toRobot.f a1_0 a1_1 a1_2 a1_3 a1_4).bind fun bt356 => ((impl_Choices.f k bt350.1 bt350.2.1 bt350.2.2 bt356.1 bt356.2.1 bt356.2.2.1 bt356.2.2.2.1 bt356.2.2.2.2).bind fun t361 => ((laws_eqIntS.f k t361 t347).bind fun t364 => (if t364 = true then ((laws_toFloor.f k a0_0 a0_1 l0_2).bind fun bt365 => ((laws_eqFloor.f k bt350.1 bt350.2.1 bt350.2.2 bt365.1 bt365.2.1 bt365.2.2).bind fun t370 => (if t370 = true then ((laws_markFloor.f k bt350.1 bt350.2.1 bt350.2.2 1).bind fun bt371 => (if bt371.1 < 0 then (laws_FnExactChoices.j0 k t347 t361 true a0_0 a0_1 l0_2 a1_0 a1_1 a1_2 a1_3 a1_4) else ((laws_eqIntS.f k t361 t347).bind fun t373 => (laws_FnExactChoices.j0 k t347 t361 (!t373) a0_0 a0_1 l0_2 a1_0 a1_1 a1_2 a1_3 a1_4)))) else (some false)))) else (some false)))))))) = some r := H
 have A10 := aM A100
 clear A100
 replace H := Option.bind_eq_some_iff.mp H
 obtain ⟨⟨t342, t343, t344, t345, t346⟩, A110, H⟩ := H
 replace H : ((spec_Choices.f k t337 t338 t339 t342 t343 t344 t345 t346).bind fun t347 => ((laws_toFloor.f k a0_0 a0_1 l0_2).bind fun bt350 => ((laws_toRobot.f a1_0 a1_1 a1_2 a1_3 a1_4).bind fun bt356 => ((impl_Choices.f k bt350.1 bt350.2.1 bt350.2.2 bt356.1 bt356.2.1 bt356.2.2.1 bt356.2.2.2.1 bt356.2.2.2.2).bind fun t361 => ((laws_eqIntS.f k t361 t347).bind fun t364 => (if t364 = true then ((laws_toFloor.f k a0_0 a0_1 l0_2).bind fun bt365 => ((laws_eqFloor.f k bt350.1 bt350.2.1 bt350.2.2 bt365.1 bt365.2.1 bt365.2.2).bind fun t370 => (if t370 = true then ((laws_markFloor.f k bt350.1 bt350.2.1 bt350.2.2 1).bind fun bt371 => (if bt371.1 < 0 then (laws_FnExactChoices.j0 k t347 t361 true a0_0 a0_1 l0_2 a1_0 a1_1 a1_2 a1_3 a1_4) else ((laws_eqIntS.f k t361 t347).bind fun t373 => (laws_FnExactChoices.j0 k t347 t361 (!t373) a0_0 a0_1 l0_2 a1_0 a1_1 a1_2 a1_3 a1_4)))) else (some false)))) else (some false))))))) = some r := H
 have A11 := aM A110
 clear A110
 replace H := Option.bind_eq_some_iff.mp H
 obtain ⟨t347, A120, H⟩ := H
 replace H : ((laws_toFloor.f k a0_0 a0_1 l0_2).bind fun bt350 => ((laws_toRobot.f a1_0 a1_1 a1_2 a1_3 a1_4).bind fun bt356 => ((impl_Choices.f k bt350.1 bt350.2.1 bt350.2.2 bt356.1 bt356.2.1 bt356.2.2.1 bt356.2.2.2.1 bt356.2.2.2.2).bind fun t361 => ((laws_eqIntS.f k t361 t347).bind fun t364 => (if t364 = true then ((laws_toFloor.f k a0_0 a0_1 l0_2).bind fun bt365 => ((laws_eqFloor.f k bt350.1 bt350.2.1 bt350.2.2 bt365.1 bt365.2.1 bt365.2.2).bind fun t370 => (if t370 = true then ((laws_markFloor.f k bt350.1 bt350.2.1 bt350.2.2 1).bind fun bt371 => (if bt371.1 < 0 then (laws_FnExactChoices.j0 k t347 t361 true a0_0 a0_1 l0_2 a1_0 a1_1 a1_2 a1_3 a1_4) else ((laws_eqIntS.f k t361 t347).bind fun t373 => (laws_FnExactChoices.j0 k t347 t361 (!t373) a0_0 a0_1 l0_2 a1_0 a1_1 a1_2 a1_3 a1_4)))) else (some false)))) else (some false)))))) = some r := H
 have A12 := aM A120
 clear A120
 replace H := Option.bind_eq_some_iff.mp H
 obtain ⟨⟨t350, t351, t352⟩, A130, H⟩ := H
 replace H : ((laws_toRobot.f a1_0 a1_1 a1_2 a1_3 a1_4).bind fun bt356 => ((impl_Choices.f k t350 t351 t352 bt356.1 bt356.2.1 bt356.2.2.1 bt356.2.2.2.1 bt356.2.2.2.2).bind fun t361 => ((laws_eqIntS.f k t361 t347).bind fun t364 => (if t364 = true then ((laws_toFloor.f k a0_0 a0_1 l0_2).bind fun bt365 => ((laws_eqFloor.f k t350 t351 t352 bt365.1 bt365.2.1 bt365.2.2).bind fun t370 => (if t370 = true then ((laws_markFloor.f k t350 t351 t352 1).bind fun bt371 => (if bt371.1 < 0 then (laws_FnExactChoices.j0 k t347 t361 true a0_0 a0_1 l0_2 a1_0 a1_1 a1_2 a1_3 a1_4) else ((laws_eqIntS.f k t361 t347).bind fun t373 => (laws_FnExactChoices.j0 k t347 t361 (!t373) a0_0 a0_1 l0_2 a1_0 a1_1 a1_2 a1_3 a1_4)))) else (some false)))) else (some false))))) = some r := H
 have A13 := aM A130
 clear A130
 replace H := Option.bind_eq_some_iff.mp H
 obtain ⟨⟨t356, t357, t358, t359, t360⟩, A140, H⟩ := H
 replace H : ((impl_Choices.f k t350 t351 t352 t356 t357 t358 t359 t360).bind fun t361 => ((laws_eqIntS.f k t361 t347).bind fun t364 => (if t364 = true then ((laws_toFloor.f k a0_0 a0_1 l0_2).bind fun bt365 => ((laws_eqFloor.f k t350 t351 t352 bt365.1 bt365.2.1 bt365.2.2).bind fun t370 => (if t370 = true then ((laws_markFloor.f k t350 t351 t352 1).bind fun bt371 => (if bt371.1 < 0 then (laws_FnExactChoices.j0 k t347 t361 true a0_0 a0_1 l0_2 a1_0 a1_1 a1_2 a1_3 a1_4) else ((laws_eqIntS.f k t361 t347).bind fun t373 => (laws_FnExactChoices.j0 k t347 t361 (!t373) a0_0 a0_1 l0_2 a1_0 a1_1 a1_2 a1_3 a1_4)))) else (some false)))) else (some false)))) = some r := H
 have A14 := aM A140
 clear A140
 replace H := Option.bind_eq_some_iff.mp H
 obtain ⟨t361, A150, H⟩ := H
 replace H : ((laws_eqIntS.f k t361 t347).bind fun t364 => (if t364 = true then ((laws_toFloor.f k a0_0 a0_1 l0_2).bind fun bt365 => ((laws_eqFloor.f k t350 t351 t352 bt365.1 bt365.2.1 bt365.2.2).bind fun t370 => (if t370 = true then ((laws_markFloor.f k t350 t351 t352 1).bind fun bt371 => (if bt371.1 < 0 then (laws_FnExactChoices.j0 k t347 t361 true a0_0 a0_1 l0_2 a1_0 a1_1 a1_2 a1_3 a1_4) else ((laws_eqIntS.f k t361 t347).bind fun t373 => (laws_FnExactChoices.j0 k t347 t361 (!t373) a0_0 a0_1 l0_2 a1_0 a1_1 a1_2 a1_3 a1_4)))) else (some false)))) else (some false))) = some r := H
 have A15 := aM A150
 clear A150
 replace H := Option.bind_eq_some_iff.mp H
 obtain ⟨t364, A160, H⟩ := H
 replace H : (if t364 = true then ((laws_toFloor.f k a0_0 a0_1 l0_2).bind fun bt365 => ((laws_eqFloor.f k t350 t351 t352 bt365.1 bt365.2.1 bt365.2.2).bind fun t370 => (if t370 = true then ((laws_markFloor.f k t350 t351 t352 1).bind fun bt371 => (if bt371.1 < 0 then (laws_FnExactChoices.j0 k t347 t361 true a0_0 a0_1 l0_2 a1_0 a1_1 a1_2 a1_3 a1_4) else ((laws_eqIntS.f k t361 t347).bind fun t373 => (laws_FnExactChoices.j0 k t347 t361 (!t373) a0_0 a0_1 l0_2 a1_0 a1_1 a1_2 a1_3 a1_4)))) else (some false)))) else (some false)) = some r := H
 have A16 := aM A160
 clear A160
 by_cases c17 : t364 = true
 {
 subst c17
 rw [if_pos rfl] at H
 replace H := Option.bind_eq_some_iff.mp H
 obtain ⟨⟨t365, t366, t367⟩, A180, H⟩ := H
 replace H : ((laws_eqFloor.f k t350 t351 t352 t365 t366 t367).bind fun t370 => (if t370 = true then ((laws_markFloor.f k t350 t351 t352 1).bind fun bt371 => (if bt371.1 < 0 then (laws_FnExactChoices.j0 k t347 t361 true a0_0 a0_1 l0_2 a1_0 a1_1 a1_2 a1_3 a1_4) else ((laws_eqIntS.f k t361 t347).bind fun t373 => (laws_FnExactChoices.j0 k t347 t361 (!t373) a0_0 a0_1 l0_2 a1_0 a1_1 a1_2 a1_3 a1_4)))) else (some false))) = some r := H
 have A18 := aM A180
 clear A180
 replace H := Option.bind_eq_some_iff.mp H
 obtain ⟨t370, A190, H⟩ := H
 replace H : (if t370 = true then ((laws_markFloor.f k t350 t351 t352 1).bind fun bt371 => (if bt371.1 < 0 then (laws_FnExactChoices.j0 k t347 t361 true a0_0 a0_1 l0_2 a1_0 a1_1 a1_2 a1_3 a1_4) else ((laws_eqIntS.f k t361 t347).bind fun t373 => (laws_FnExactChoices.j0 k t347 t361 (!t373) a0_0 a0_1 l0_2 a1_0 a1_1 a1_2 a1_3 a1_4)))) else (some false)) = some r := H
 have A19 := aM A190
 clear A190
 by_cases c20 : t370 = true
 {
 subst c20
 rw [if_pos rfl] at H
 replace H := Option.bind_eq_some_iff.mp H
 obtain ⟨⟨t371, t372⟩, A210, H⟩ := H
 replace H : (if t371 < 0 then (laws_FnExactChoices.j0 k t347 t361 true a0_0 a0_1 l0_2 a1_0 a1_1 a1_2 a1_3 a1_4) else ((laws_eqIntS.f k t361 t347).bind fun t373 => (laws_FnExactChoices.j0 k t347 t361 (!t373) a0_0 a0_1 l0_2 a1_0 a1_1 a1_2 a1_3 a1_4))) = some r := H
 have A21 := aM A210
 clear A210
 have HC22 := aM H
 clear H
 go_enter Try.func5, Try.ntmps5
 try go_wp2_with (first | ((with_reducible refine gate_dst (N := 2) rfl ?_); refine bx_ 2 #[.int .i64 a0_0, .int .i64 a0_1, .slice A0_2 l0_2.length c0_2] 39 ?_; intro gb334 hg w23 hbox hb; have BK334 := aM (hbox); have GW334 := aM (bz_ w hg qz1); have GE334 := GW334; replace HB := bS_ hb; clear hb hbox hg) | ((with_reducible refine gate_dst (N := 3) rfl ?_); refine bx_ 3 #[.int .i64 a1_0, .int .i64 a1_1, .int .i64 a1_2, .bool a1_3, .int .i64 a1_4] 40 ?_; intro gb335 hg w24 hbox hb; have BK335 := aM (hbox); have GW335 := aM (bz_ w hg qz1); have GE335 := GW335; replace HB := bS_ hb; obtain ⟨NB334_335, NB335_334⟩ := nb_ hg (bk_ BK334.out); replace BK334 := bB_ BK334 hb; clear hb hbox hg; have hnb25 := NB334_335.out; have hnc25 := NB335_334.out; obtain ⟨hcz26_0, hcz26_1, hcz26_2, hfz26_0, hfz26_1, hfz26_2⟩ := b6_ BK334.out) | ((with_reducible refine gate_callee (f := 25) rfl ?_); refine goesL_ (some 15) rfl rfl Try.func25 (by kernel_rfl) rfl #[.agg #[.int .i64 a0_0, .int .i64 a0_1, .slice A0_2 l0_2.length c0_2], .int .i64 1048576] rfl qz2 ?_; (with_reducible refine (laws_szFloor.calls a0_0 a0_1 _ _ l0_2 1048576 t336 _ ?side1 ?side2 A3.out).mono ?_); (case side1 => exact qz3); (case side2 => exact HC0_2.out); rintro e w27 ⟨rfl, hb⟩; refine ⟨_, rfl, ?_⟩; replace BK334 := bB_ BK334 hb; replace BK335 := bB_ BK335 hb; replace HB := bS_ hb; (try clear hb)))
 replace BK334 := aM (blk_drew BK334.out)
 replace BK335 := aM (blk_drew BK335.out)
 replace HB := aM (below_drew1 HB.out)
 refine start_ (n := 6) (S := fun w' => w'.cell? ⟨gb334, 0, none⟩ = some (.int .i64 a0_0) ∧ w'.cell? ⟨gb334, 1, none⟩ = some (.int .i64 a0_1) ∧ w'.cell? ⟨gb334, 2, none⟩ = some (.slice A0_2 l0_2.length c0_2) ∧ w'.cell? ⟨gb335, 0, none⟩ = some (.int .i64 a1_0) ∧ w'.cell? ⟨gb335, 1, none⟩ = some (.int .i64 a1_1) ∧ w'.cell? ⟨gb335, 2, none⟩ = some (.int .i64 a1_2) ∧ w'.cell? ⟨gb335, 3, none⟩ = some (.bool a1_3) ∧ w'.cell? ⟨gb335, 4, none⟩ = some (.int .i64 a1_4)) (ds := []) #[false, false, false, false, false, false] (by kernel_rfl) rfl rfl ⟨(blk_cell BK334.out 0).trans rfl, (blk_cell BK334.out 1).trans rfl, (blk_cell BK334.out 2).trans rfl, (blk_cell BK335.out 0).trans rfl, (blk_cell BK335.out 1).trans rfl, (blk_cell BK335.out 2).trans rfl, (blk_cell BK335.out 3).trans rfl, (blk_cell BK335.out 4).trans rfl⟩ (fun hHeld => ?_)
 generalize w27.drew = w28 at BK334 BK335 HB hHeld ⊢
 refine take_ (i := 0) (N := some 18) (v := ?_) (a' := ?_) #[true, false, false, false, false, false] rfl rfl (by kernel_rfl) qzd (Or.inl ⟨by rfl, ?_⟩) hHeld ?_ ?_
 rotate_left
 {
 rintro w' ⟨s0, s1, s2, s3, s4, s5, s6, s7⟩
 go_simp
 with_reducible rfl
 }
 rotate_left
 {
 simp only [qzs]
 rfl
 }
 refine take_ (i := 2) (N := some 20) (v := ?_) (a' := ?_) #[true, false, true, false, false, false] rfl rfl (by kernel_rfl) qzd (Or.inl ⟨by rfl, ?_⟩) hHeld ?_ ?_
 rotate_left
 {
 rintro w' ⟨s0, s1, s2, s3, s4, s5, s6, s7⟩
 go_simp
 with_reducible rfl
 }
 rotate_left
 {
 simp only [qzs]
 rfl
 }
 refine one_ (i := 1) (N := some 19) #[true, true, true, false, false, false] rfl rfl (by kernel_rfl) (by decide) (fun K hK => ?_)
 refine goes_ Try.func27 (by kernel_rfl) rfl #[.agg #[.int .i64 a0_0, .int .i64 a0_1, .slice A0_2 l0_2.length c0_2]] (by rfl) rfl rfl qz2 ?_
 with_reducible refine (laws_toFloor.calls k a0_0 a0_1 _ _ l0_2 t337 t338 t339 _ ?side1 ?side2 A10.out).mono ?_
 (case side1 => exact qz3)
 (case side2 => exact HC0_2.out)
 rintro e w29 ⟨v340, rfl, ho0, hb⟩
 refine ⟨_, rfl, ?_⟩
 have HO341 := aM (Kd.R_lower ho0 (below_size qz1))
 replace BK334 := bB_ BK334 hb
 replace BK335 := bB_ BK335 hb
 replace HB := bS_ hb
 (try clear hb)
 (try clear hb2)
 (try clear hk)
 (try clear hi)
 (try clear ho0)
 refine hK.out _ _ ⟨(blk_cell BK334.out 0).trans rfl, (blk_cell BK334.out 1).trans rfl, (blk_cell BK334.out 2).trans rfl, (blk_cell BK335.out 0).trans rfl, (blk_cell BK335.out 1).trans rfl, (blk_cell BK335.out 2).trans rfl, (blk_cell BK335.out 3).trans rfl, (blk_cell BK335.out 4).trans rfl⟩ (fun hHeld => ?_)
 clear hK K
 refine nm_ 19 ?_
 refine one_ (i := 3) (N := some 21) #[true, true, true, true, false, false] rfl rfl (by kernel_rfl) (by decide) (fun K hK => ?_)
 refine goes_ Try.func28 (by kernel_rfl) rfl #[.agg #[.int .i64 a1_0, .int .i64 a1_1, .int .i64 a1_2, .bool a1_3, .int .i64 a1_4]] (by rfl) rfl rfl qz2 ?_
 with_reducible refine (laws_toRobot.calls a1_0 a1_1 a1_2 a1_3 a1_4 t342 t343 t344 t345 t346 _ A11.out).mono ?_
 rintro e w30 ⟨rfl, hb⟩
 refine ⟨_, rfl, ?_⟩
 replace HO341 := aM (Kd.R_below (rr_ HO341.out) hb)
 replace BK334 := bB_ BK334 hb
 replace BK335 := bB_ BK335 hb
 replace HB := bS_ hb
 (try clear hb)
 (try clear hb2)
 (try clear hk)
 (try clear hi)
 obtain ⟨Ao31, co31, eo31⟩ := Kd.R_slice HO341.out
 (first | subst eo31 | (injection eo31 with f1_ f2_ f3_; have f4_ := f1_.symm; have f5_ := f3_.symm; clear f1_ f2_ f3_; subst f4_; subst f5_))
 refine hK.out _ _ ⟨(blk_cell BK334.out 0).trans rfl, (blk_cell BK334.out 1).trans rfl, (blk_cell BK334.out 2).trans rfl, (blk_cell BK335.out 0).trans rfl, (blk_cell BK335.out 1).trans rfl, (blk_cell BK335.out 2).trans rfl, (blk_cell BK335.out 3).trans rfl, (blk_cell BK335.out 4).trans rfl⟩ (fun hHeld => ?_)
 clear hK K
 refine nm_ 21 ?_
 refine one_ (i := 4) (N := some 22) #[true, true, true, true, true, false] rfl rfl (by kernel_rfl) (by decide) (fun K hK => ?_)
 refine goes_ Try.func26 (by kernel_rfl) rfl #[.agg #[.int .i64 t337, .int .i64 t338, .slice Ao31 t339.length co31], .agg #[.int .i64 t342, .int .i64 t343, .int .i64 t344, .bool t345, .int .i64 t346]] (by rfl) rfl rfl qz2 ?_
 with_reducible refine (spec_Choices.calls k t337 t338 _ _ t339 t342 t343 t344 t345 t346 t347 _ ?side1 ?side2 A12.out).mono ?_
 (case side1 => repeat (first | exact (Kd.R_reads' HO341.out).2.2 | (with_reducible refine Kd.C_alloc ?_ _) | (with_reducible refine Kd.C_drewN ?_ _) | (with_reducible refine Kd.C_drew ?_)))
 (case side2 => exact (Kd.R_reads' HO341.out).2.1)
 rintro e w32 ⟨v348, rfl, ho0, hb⟩
 refine ⟨_, rfl, ?_⟩
 have HO349 := aM (Kd.R_lower (Kd.R_new' ho0 (Kd.R_lt (rr_ HO341.out))) (below_size qz1))
 replace HO341 := aM (Kd.R_elder' (rr_ HO341.out) (Kd.R_base ho0) hb)
 replace BK334 := bB_ BK334 hb
 replace BK335 := bB_ BK335 hb
 replace HB := bS_ hb
 (try clear hb)
 (try clear hb2)
 (try clear hk)
 (try clear hi)
 (try clear ho0)
 refine hK.out _ _ ⟨(blk_cell BK334.out 0).trans rfl, (blk_cell BK334.out 1).trans rfl, (blk_cell BK334.out 2).trans rfl, (blk_cell BK335.out 0).trans rfl, (blk_cell BK335.out 1).trans rfl, (blk_cell BK335.out 2).trans rfl, (blk_cell BK335.out 3).trans rfl, (blk_cell BK335.out 4).trans rfl⟩ (fun hHeld => ?_)
 clear hK K
 refine nm_ 22 ?_
 refine pure_ (i := 5) (N := some 6) (v := ?_) (a' := ?_) #[true, true, true, true, true, true] rfl rfl (by kernel_rfl) qzd (Or.inl ⟨by rfl, ?_⟩) ?_ ?_
 rotate_left
 {
 intro w'
 go_simp
 with_reducible rfl
 }
 rotate_left
 {
 simp only [qzs]
 rfl
 }
 refine done_ (by kernel_rfl) ?_
 obtain ⟨hcz33_0, hcz33_1, hcz33_2, hfz33_0, hfz33_1, hfz33_2⟩ := b6_ BK334.out
 try go_wp2_with (first | ((with_reducible refine gate_callee (f := 27) rfl ?_); refine goesL_ (some 24) rfl rfl Try.func27 (by kernel_rfl) rfl #[.agg #[.int .i64 a0_0, .int .i64 a0_1, .slice A0_2 l0_2.length c0_2]] rfl qz2 ?_; (with_reducible refine (laws_toFloor.calls k a0_0 a0_1 _ _ l0_2 t350 t351 t352 _ ?side1 ?side2 A13.out).mono ?_); (case side1 => exact qz3); (case side2 => exact HC0_2.out); rintro e w34 ⟨v353, rfl, ho0, hb⟩; refine ⟨_, rfl, ?_⟩; have HO354 := aM (Kd.R_lower (Kd.R_new' (Kd.R_new' ho0 (Kd.R_lt (rr_ HO341.out))) (Kd.R_lt (rr_ HO349.out))) (below_size qz1)); replace HO341 := aM (Kd.R_elder' (rr_ HO341.out) (Kd.R_base ho0) hb); replace HO349 := aM (Kd.R_elder' (rr_ HO349.out) (Kd.R_base ho0) hb); replace BK334 := bB_ BK334 hb; replace BK335 := bB_ BK335 hb; replace HB := bS_ hb; (try clear hb ho0)) | ((with_reducible refine gate_dst (N := 7) rfl ?_); refine bx_ 7 #[.int .i64 0, .int .i64 0, .slice none 0 0] 43 ?_; intro gb355 hg w35 hbox hb; replace HO341 := aM (Kd.R_below (rr_ HO341.out) hb); replace HO349 := aM (Kd.R_below (rr_ HO349.out) hb); replace HO354 := aM (Kd.R_below (rr_ HO354.out) hb); have BK355 := aM (hbox); have GW355 := aM (bz_ w hg qz1); have GE355 := GW355; replace HB := bS_ hb; obtain ⟨NB334_355, NB355_334⟩ := nb_ hg (bk_ BK334.out); replace BK334 := bB_ BK334 hb; obtain ⟨NB335_355, NB355_335⟩ := nb_ hg (bk_ BK335.out); replace BK335 := bB_ BK335 hb; clear hb hbox hg; have hnb36 := NB355_334.out; have hnc36 := NB334_355.out; have hnb37 := NB355_335.out; have hnc37 := NB335_355.out; obtain ⟨hcz38_0, hcz38_1, hcz38_2, hfz38_0, hfz38_1, hfz38_2⟩ := b6_ BK355.out; obtain ⟨Ao39, co39, eo39⟩ := Kd.R_slice HO354.out; subst eo39))
 generalize hq_ : (((w35.setCell ⟨gb355, 0, none⟩ (.int .i64 t350)).setCell ⟨gb355, 1, none⟩ (.int .i64 t351)).setCell ⟨gb355, 2, none⟩ (.slice Ao39 t352.length co39)) = w40
 replace HO341 : Aside0 (Kd.R (Kd.int .i64) 3 w40 w.heap.size (fun k_ => some k_ ≠ (v348 : Value).ownBlock ∧ some k_ ≠ (.slice Ao39 t352.length co39 : Value).ownBlock) (.slice Ao31 t339.length co31) t339) := ⟨by rw [← hq_]; exact (by (with_reducible repeat (first | apply Kd.R_alloc | apply Kd.R_drewN | apply Kd.R_drew)); exact Kd.R_mono (Kd.R_far (p := ⟨gb355, 2, none⟩) (Kd.R_far (p := ⟨gb355, 1, none⟩) (Kd.R_far (p := ⟨gb355, 0, none⟩) (Kd.R_types HO341.out BK355.out (by decide)) (fun _ hk => hk.2) (.int .i64 t350)) (fun _ hk => hk.2) (.int .i64 t351)) (fun _ hk => hk.2) (.slice Ao39 t352.length co39)) (fun _ hk => ⟨hk.1.1.2, hk.1.2⟩))⟩
 replace HO349 : Aside0 (Kd.R (Kd.int .i64) 3 w40 w.heap.size (fun k_ => some k_ ≠ (.slice Ao31 t339.length co31 : Value).ownBlock ∧ some k_ ≠ (.slice Ao39 t352.length co39 : Value).ownBlock) v348 t347) := ⟨by rw [← hq_]; exact (by (with_reducible repeat (first | apply Kd.R_alloc | apply Kd.R_drewN | apply Kd.R_drew)); exact Kd.R_mono (Kd.R_far (p := ⟨gb355, 2, none⟩) (Kd.R_far (p := ⟨gb355, 1, none⟩) (Kd.R_far (p := ⟨gb355, 0, none⟩) (Kd.R_types HO349.out BK355.out (by decide)) (fun _ hk => hk.2) (.int .i64 t350)) (fun _ hk => hk.2) (.int .i64 t351)) (fun _ hk => hk.2) (.slice Ao39 t352.length co39)) (fun _ hk => ⟨hk.1.1.2, hk.1.2⟩))⟩
 replace HO354 : Aside0 (Kd.R (Kd.int .i64) 3 w40 w.heap.size (fun k_ => some k_ ≠ (.slice Ao31 t339.length co31 : Value).ownBlock ∧ some k_ ≠ (v348 : Value).ownBlock) (.slice Ao39 t352.length co39) t352) := ⟨by rw [← hq_]; exact (by (with_reducible repeat (first | apply Kd.R_alloc | apply Kd.R_drewN | apply Kd.R_drew)); exact Kd.R_mono (Kd.R_far (p := ⟨gb355, 2, none⟩) (Kd.R_far (p := ⟨gb355, 1, none⟩) (Kd.R_far (p := ⟨gb355, 0, none⟩) (Kd.R_types HO354.out BK355.out (by decide)) (fun _ hk => hk.2) (.int .i64 t350)) (fun _ hk => hk.2) (.int .i64 t351)) (fun _ hk => hk.2) (.slice Ao39 t352.length co39)) (fun _ hk => ⟨hk.1.1.2, hk.1.2⟩))⟩
 replace BK334 : Aside0 (w40.heap[gb334]? = some (.cells #[.int .i64 a0_0, .int .i64 a0_1, .slice A0_2 l0_2.length c0_2] 39 (0, 0))) := ⟨by rw [← hq_]; exact (bk2_ BK334.out)⟩
 replace BK335 : Aside0 (w40.heap[gb335]? = some (.cells #[.int .i64 a1_0, .int .i64 a1_1, .int .i64 a1_2, .bool a1_3, .int .i64 a1_4] 40 (0, 0))) := ⟨by rw [← hq_]; exact (bk2_ BK335.out)⟩
 replace BK355 : Aside0 (w40.heap[gb355]? = some (.cells #[.int .i64 t350, .int .i64 t351, .slice Ao39 t352.length co39] 43 (0, 0))) := ⟨by rw [← hq_]; exact (by (with_reducible repeat (first | refine blk_drewN ?_ _ | refine blk_drew ?_ | refine blk_alloc ?_ _)); refine blk_put (cs := #[.int .i64 t350, .int .i64 t351, .slice none 0 0]) ?_ 2 _ rfl; (with_reducible repeat (first | refine blk_drewN ?_ _ | refine blk_drew ?_ | refine blk_alloc ?_ _)); refine blk_put (cs := #[.int .i64 t350, .int .i64 0, .slice none 0 0]) ?_ 1 _ rfl; (with_reducible repeat (first | refine blk_drewN ?_ _ | refine blk_drew ?_ | refine blk_alloc ?_ _)); refine blk_put (cs := #[.int .i64 0, .int .i64 0, .slice none 0 0]) ?_ 0 _ rfl; exact bk_ BK355.out)⟩
 replace HB : Aside0 (Below w.heap.size w w40) := ⟨by rw [← hq_]; exact qz1⟩
 clear hq_
 replace HO341 := aM (Kd.R_drew HO341.out)
 replace HO349 := aM (Kd.R_drew HO349.out)
 replace HO354 := aM (Kd.R_drew HO354.out)
 replace BK334 := aM (blk_drew BK334.out)
 replace BK335 := aM (blk_drew BK335.out)
 replace BK355 := aM (blk_drew BK355.out)
 replace HB := aM (below_drew1 HB.out)
 refine start_ (n := 5) (S := fun w' => w'.cell? ⟨gb355, 0, none⟩ = some (.int .i64 t350) ∧ w'.cell? ⟨gb355, 1, none⟩ = some (.int .i64 t351) ∧ w'.cell? ⟨gb355, 2, none⟩ = some (.slice Ao39 t352.length co39) ∧ w'.cell? ⟨gb335, 0, none⟩ = some (.int .i64 a1_0) ∧ w'.cell? ⟨gb335, 1, none⟩ = some (.int .i64 a1_1) ∧ w'.cell? ⟨gb335, 2, none⟩ = some (.int .i64 a1_2) ∧ w'.cell? ⟨gb335, 3, none⟩ = some (.bool a1_3) ∧ w'.cell? ⟨gb335, 4, none⟩ = some (.int .i64 a1_4)) (ds := []) #[false, false, false, false, false] (by kernel_rfl) rfl rfl ⟨(blk_cell BK355.out 0).trans rfl, (blk_cell BK355.out 1).trans rfl, (blk_cell BK355.out 2).trans rfl, (blk_cell BK335.out 0).trans rfl, (blk_cell BK335.out 1).trans rfl, (blk_cell BK335.out 2).trans rfl, (blk_cell BK335.out 3).trans rfl, (blk_cell BK335.out 4).trans rfl⟩ (fun hHeld => ?_)
 generalize w40.drew = w41 at HO341 HO349 HO354 BK334 BK335 BK355 HB hHeld ⊢
 refine take_ (i := 0) (N := some 25) (v := ?_) (a' := ?_) #[true, false, false, false, false] rfl rfl (by kernel_rfl) qzd (Or.inl ⟨by rfl, ?_⟩) hHeld ?_ ?_
 rotate_left
 {
 rintro w' ⟨s0, s1, s2, s3, s4, s5, s6, s7⟩
 go_simp
 with_reducible rfl
 }
 rotate_left
 {
 simp only [qzs]
 rfl
 }
 refine take_ (i := 1) (N := some 26) (v := ?_) (a' := ?_) #[true, true, false, false, false] rfl rfl (by kernel_rfl) qzd (Or.inl ⟨by rfl, ?_⟩) hHeld ?_ ?_
 rotate_left
 {
 rintro w' ⟨s0, s1, s2, s3, s4, s5, s6, s7⟩
 go_simp
 with_reducible rfl
 }
 rotate_left
 {
 simp only [qzs]
 rfl
 }
 refine one_ (i := 2) (N := some 27) #[true, true, true, false, false] rfl rfl (by kernel_rfl) (by decide) (fun K hK => ?_)
 refine goes_ Try.func28 (by kernel_rfl) rfl #[.agg #[.int .i64 a1_0, .int .i64 a1_1, .int .i64 a1_2, .bool a1_3, .int .i64 a1_4]] (by rfl) rfl rfl qz2 ?_
 with_reducible refine (laws_toRobot.calls a1_0 a1_1 a1_2 a1_3 a1_4 t356 t357 t358 t359 t360 _ A14.out).mono ?_
 rintro e w42 ⟨rfl, hb⟩
 refine ⟨_, rfl, ?_⟩
 replace HO341 := aM (Kd.R_below (rr_ HO341.out) hb)
 replace HO349 := aM (Kd.R_below (rr_ HO349.out) hb)
 replace HO354 := aM (Kd.R_below (rr_ HO354.out) hb)
 replace BK334 := bB_ BK334 hb
 replace BK335 := bB_ BK335 hb
 replace BK355 := bB_ BK355 hb
 replace HB := bS_ hb
 (try clear hb)
 (try clear hb2)
 (try clear hk)
 (try clear hi)
 refine hK.out _ _ ⟨(blk_cell BK355.out 0).trans rfl, (blk_cell BK355.out 1).trans rfl, (blk_cell BK355.out 2).trans rfl, (blk_cell BK335.out 0).trans rfl, (blk_cell BK335.out 1).trans rfl, (blk_cell BK335.out 2).trans rfl, (blk_cell BK335.out 3).trans rfl, (blk_cell BK335.out 4).trans rfl⟩ (fun hHeld => ?_)
 clear hK K
 refine nm_ 27 ?_
 refine one_ (i := 3) (N := some 28) #[true, true, true, true, false] rfl rfl (by kernel_rfl) (by decide) (fun K hK => ?_)
 refine goes_ Try.func29 (by kernel_rfl) rfl #[.agg #[.int .i64 t350, .int .i64 t351, .slice Ao39 t352.length co39], .agg #[.int .i64 t356, .int .i64 t357, .int .i64 t358, .bool t359, .int .i64 t360]] (by rfl) rfl rfl qz2 ?_
 with_reducible refine (impl_Choices.calls k t350 t351 _ _ t352 t356 t357 t358 t359 t360 t361 _ ?side1 ?side2 A15.out).mono ?_
 (case side1 => repeat (first | exact (Kd.R_reads' HO354.out).2.2 | (with_reducible refine Kd.C_alloc ?_ _) | (with_reducible refine Kd.C_drewN ?_ _) | (with_reducible refine Kd.C_drew ?_)))
 (case side2 => exact (Kd.R_reads' HO354.out).2.1)
 rintro e w43 ⟨v362, rfl, ho0, hb⟩
 refine ⟨_, rfl, ?_⟩
 have HO363 := aM (Kd.R_lower (Kd.R_new' (Kd.R_new' (Kd.R_new' ho0 (Kd.R_lt (rr_ HO341.out))) (Kd.R_lt (rr_ HO349.out))) (Kd.R_lt (rr_ HO354.out))) (below_size qz1))
 replace HO341 := aM (Kd.R_elder' (rr_ HO341.out) (Kd.R_base ho0) hb)
 replace HO349 := aM (Kd.R_elder' (rr_ HO349.out) (Kd.R_base ho0) hb)
 replace HO354 := aM (Kd.R_elder' (rr_ HO354.out) (Kd.R_base ho0) hb)
 replace BK334 := bB_ BK334 hb
 replace BK335 := bB_ BK335 hb
 replace BK355 := bB_ BK355 hb
 replace HB := bS_ hb
 (try clear hb)
 (try clear hb2)
 (try clear hk)
 (try clear hi)
 (try clear ho0)
 refine hK.out _ _ ⟨(blk_cell BK355.out 0).trans rfl, (blk_cell BK355.out 1).trans rfl, (blk_cell BK355.out 2).trans rfl, (blk_cell BK335.out 0).trans rfl, (blk_cell BK335.out 1).trans rfl, (blk_cell BK335.out 2).trans rfl, (blk_cell BK335.out 3).trans rfl, (blk_cell BK335.out 4).trans rfl⟩ (fun hHeld => ?_)
 clear hK K
 refine nm_ 28 ?_
 refine pure_ (i := 4) (N := some 8) (v := ?_) (a' := ?_) #[true, true, true, true, true] rfl rfl (by kernel_rfl) qzd (Or.inl ⟨by rfl, ?_⟩) ?_ ?_
 rotate_left
 {
 intro w'
 go_simp
 with_reducible rfl
 }
 rotate_left
 {
 simp only [qzs]
 rfl
 }
 refine done_ (by kernel_rfl) ?_
 obtain ⟨Ao44, co44, eo44⟩ := Kd.R_slice HO363.out
 subst eo44
 obtain ⟨Ao45, co45, eo45⟩ := Kd.R_slice HO349.out
 subst eo45
 try go_wp2_with (first | ((with_reducible refine gate_callee (f := 18) rfl ?_); refine goesL_ (some 31) rfl rfl Try.func18 (by kernel_rfl) rfl #[.slice Ao44 t361.length co44, .slice Ao45 t347.length co45] rfl qz2 ?_; (with_reducible refine (laws_eqIntS.calls k _ _ t361 _ _ t347 true _ ?side1 ?side2 ?side3 ?side4 A16.out).mono ?_); (case side1 => repeat (first | exact (Kd.R_reads' HO363.out).2.2 | (with_reducible refine Kd.C_alloc ?_ _) | (with_reducible refine Kd.C_drewN ?_ _) | (with_reducible refine Kd.C_drew ?_))); (case side2 => exact (Kd.R_reads' HO363.out).2.1); (case side3 => repeat (first | exact (Kd.R_reads' HO349.out).2.2 | (with_reducible refine Kd.C_alloc ?_ _) | (with_reducible refine Kd.C_drewN ?_ _) | (with_reducible refine Kd.C_drew ?_))); (case side4 => exact (Kd.R_reads' HO349.out).2.1); rintro e w' ⟨rfl, ⟨nd, rfl⟩⟩; refine ⟨_, rfl, ?_⟩))
 (try (rw [drewN_self w43]; generalize hq_ : World.drewN w43 _ = w43; replace HO341 : Aside0 (Kd.R (Kd.int .i64) 3 w43 w.heap.size (fun k_ => ((some k_ ≠ (.slice Ao45 t347.length co45 : Value).ownBlock ∧ some k_ ≠ (.slice Ao39 t352.length co39 : Value).ownBlock) ∧ some k_ ≠ (.slice Ao44 t361.length co44 : Value).ownBlock)) (.slice Ao31 t339.length co31) t339) := ⟨by rw [← hq_]; exact (rr_ HO341.out)⟩; replace HO349 : Aside0 (Kd.R (Kd.int .i64) 3 w43 w.heap.size (fun k_ => ((some k_ ≠ (.slice Ao31 t339.length co31 : Value).ownBlock ∧ some k_ ≠ (.slice Ao39 t352.length co39 : Value).ownBlock) ∧ some k_ ≠ (.slice Ao44 t361.length co44 : Value).ownBlock)) (.slice Ao45 t347.length co45) t347) := ⟨by rw [← hq_]; exact (rr_ HO349.out)⟩; replace HO354 : Aside0 (Kd.R (Kd.int .i64) 3 w43 w.heap.size (fun k_ => ((some k_ ≠ (.slice Ao31 t339.length co31 : Value).ownBlock ∧ some k_ ≠ (.slice Ao45 t347.length co45 : Value).ownBlock) ∧ some k_ ≠ (.slice Ao44 t361.length co44 : Value).ownBlock)) (.slice Ao39 t352.length co39) t352) := ⟨by rw [← hq_]; exact (rr_ HO354.out)⟩; replace HO363 : Aside0 (Kd.R (Kd.int .i64) 3 w43 w.heap.size (fun k_ => (((True ∧ some k_ ≠ (.slice Ao31 t339.length co31 : Value).ownBlock) ∧ some k_ ≠ (.slice Ao45 t347.length co45 : Value).ownBlock) ∧ some k_ ≠ (.slice Ao39 t352.length co39 : Value).ownBlock)) (.slice Ao44 t361.length co44) t361) := ⟨by rw [← hq_]; exact (rr_ HO363.out)⟩; replace BK334 : Aside0 (w43.heap[gb334]? = some (.cells #[.int .i64 a0_0, .int .i64 a0_1, .slice A0_2 l0_2.length c0_2] 39 (0, 0))) := ⟨by rw [← hq_]; exact (bk_ BK334.out)⟩; replace BK335 : Aside0 (w43.heap[gb335]? = some (.cells #[.int .i64 a1_0, .int .i64 a1_1, .int .i64 a1_2, .bool a1_3, .int .i64 a1_4] 40 (0, 0))) := ⟨by rw [← hq_]; exact (bk_ BK335.out)⟩; replace BK355 : Aside0 (w43.heap[gb355]? = some (.cells #[.int .i64 t350, .int .i64 t351, .slice Ao39 t352.length co39] 43 (0, 0))) := ⟨by rw [← hq_]; exact (bk_ BK355.out)⟩; replace HB : Aside0 (Below w.heap.size w w43) := ⟨by rw [← hq_]; exact qz1⟩; clear hq_))
 replace HO341 := aM (Kd.R_drew HO341.out)
 replace HO349 := aM (Kd.R_drew HO349.out)
 replace HO354 := aM (Kd.R_drew HO354.out)
 replace HO363 := aM (Kd.R_drew HO363.out)
 replace BK334 := aM (blk_drew BK334.out)
 replace BK335 := aM (blk_drew BK335.out)
 replace BK355 := aM (blk_drew BK355.out)
 replace HB := aM (below_drew1 HB.out)
 refine start_ (n := 5) (S := fun w' => w'.cell? ⟨gb355, 0, none⟩ = some (.int .i64 t350) ∧ w'.cell? ⟨gb355, 1, none⟩ = some (.int .i64 t351) ∧ w'.cell? ⟨gb355, 2, none⟩ = some (.slice Ao39 t352.length co39) ∧ w'.cell? ⟨gb334, 0, none⟩ = some (.int .i64 a0_0) ∧ w'.cell? ⟨gb334, 1, none⟩ = some (.int .i64 a0_1) ∧ w'.cell? ⟨gb334, 2, none⟩ = some (.slice A0_2 l0_2.length c0_2)) (ds := []) #[false, false, false, false, false] (by kernel_rfl) rfl rfl ⟨(blk_cell BK355.out 0).trans rfl, (blk_cell BK355.out 1).trans rfl, (blk_cell BK355.out 2).trans rfl, (blk_cell BK334.out 0).trans rfl, (blk_cell BK334.out 1).trans rfl, (blk_cell BK334.out 2).trans rfl⟩ (fun hHeld => ?_)
 generalize w43.drew = w46 at HO341 HO349 HO354 HO363 BK334 BK335 BK355 HB hHeld ⊢
 refine take_ (i := 0) (N := some 33) (v := ?_) (a' := ?_) #[true, false, false, false, false] rfl rfl (by kernel_rfl) qzd (Or.inl ⟨by rfl, ?_⟩) hHeld ?_ ?_
 rotate_left
 {
 rintro w' ⟨s0, s1, s2, s3, s4, s5⟩
 go_simp
 with_reducible rfl
 }
 rotate_left
 {
 simp only [qzs]
 rfl
 }
 refine take_ (i := 1) (N := some 34) (v := ?_) (a' := ?_) #[true, true, false, false, false] rfl rfl (by kernel_rfl) qzd (Or.inl ⟨by rfl, ?_⟩) hHeld ?_ ?_
 rotate_left
 {
 rintro w' ⟨s0, s1, s2, s3, s4, s5⟩
 go_simp
 with_reducible rfl
 }
 rotate_left
 {
 simp only [qzs]
 rfl
 }
 refine one_ (i := 2) (N := some 35) #[true, true, true, false, false] rfl rfl (by kernel_rfl) (by decide) (fun K hK => ?_)
 refine goes_ Try.func27 (by kernel_rfl) rfl #[.agg #[.int .i64 a0_0, .int .i64 a0_1, .slice A0_2 l0_2.length c0_2]] (by rfl) rfl rfl qz2 ?_
 with_reducible refine (laws_toFloor.calls k a0_0 a0_1 _ _ l0_2 t365 t366 t367 _ ?side1 ?side2 A18.out).mono ?_
 (case side1 => exact qz3)
 (case side2 => exact HC0_2.out)
 rintro e w47 ⟨v368, rfl, ho0, hb⟩
 refine ⟨_, rfl, ?_⟩
 have HO369 := aM (Kd.R_lower (Kd.R_new' (Kd.R_new' (Kd.R_new' (Kd.R_new' ho0 (Kd.R_lt (rr_ HO341.out))) (Kd.R_lt (rr_ HO349.out))) (Kd.R_lt (rr_ HO354.out))) (Kd.R_lt (rr_ HO363.out))) (below_size qz1))
 replace HO341 := aM (Kd.R_elder' (rr_ HO341.out) (Kd.R_base ho0) hb)
 replace HO349 := aM (Kd.R_elder' (rr_ HO349.out) (Kd.R_base ho0) hb)
 replace HO354 := aM (Kd.R_elder' (rr_ HO354.out) (Kd.R_base ho0) hb)
 replace HO363 := aM (Kd.R_elder' (rr_ HO363.out) (Kd.R_base ho0) hb)
 replace BK334 := bB_ BK334 hb
 replace BK335 := bB_ BK335 hb
 replace BK355 := bB_ BK355 hb
 replace HB := bS_ hb
 (try clear hb)
 (try clear hb2)
 (try clear hk)
 (try clear hi)
 (try clear ho0)
 obtain ⟨Ao48, co48, eo48⟩ := Kd.R_slice HO369.out
 (first | subst eo48 | (injection eo48 with f1_ f2_ f3_; have f4_ := f1_.symm; have f5_ := f3_.symm; clear f1_ f2_ f3_; subst f4_; subst f5_))
 refine hK.out _ _ ⟨(blk_cell BK355.out 0).trans rfl, (blk_cell BK355.out 1).trans rfl, (blk_cell BK355.out 2).trans rfl, (blk_cell BK334.out 0).trans rfl, (blk_cell BK334.out 1).trans rfl, (blk_cell BK334.out 2).trans rfl⟩ (fun hHeld => ?_)
 clear hK K
 refine nm_ 35 ?_
 refine one_ (i := 3) (N := some 36) #[true, true, true, true, false] rfl rfl (by kernel_rfl) (by decide) (fun K hK => ?_)
 refine goes_ Try.func30 (by kernel_rfl) rfl #[.agg #[.int .i64 t350, .int .i64 t351, .slice Ao39 t352.length co39], .agg #[.int .i64 t365, .int .i64 t366, .slice Ao48 t367.length co48]] (by rfl) rfl rfl qz2 ?_
 with_reducible refine (laws_eqFloor.calls k t350 t351 _ _ t352 t365 t366 _ _ t367 true _ ?side1 ?side2 ?side3 ?side4 A19.out).mono ?_
 (case side1 => repeat (first | exact (Kd.R_reads' HO354.out).2.2 | (with_reducible refine Kd.C_alloc ?_ _) | (with_reducible refine Kd.C_drewN ?_ _) | (with_reducible refine Kd.C_drew ?_)))
 (case side2 => exact (Kd.R_reads' HO354.out).2.1)
 (case side3 => repeat (first | exact (Kd.R_reads' HO369.out).2.2 | (with_reducible refine Kd.C_alloc ?_ _) | (with_reducible refine Kd.C_drewN ?_ _) | (with_reducible refine Kd.C_drew ?_)))
 (case side4 => exact (Kd.R_reads' HO369.out).2.1)
 rintro e w49 ⟨rfl, hb⟩
 refine ⟨_, rfl, ?_⟩
 replace HO341 := aM (Kd.R_below (rr_ HO341.out) hb)
 replace HO349 := aM (Kd.R_below (rr_ HO349.out) hb)
 replace HO354 := aM (Kd.R_below (rr_ HO354.out) hb)
 replace HO363 := aM (Kd.R_below (rr_ HO363.out) hb)
 replace HO369 := aM (Kd.R_below (rr_ HO369.out) hb)
 replace BK334 := bB_ BK334 hb
 replace BK335 := bB_ BK335 hb
 replace BK355 := bB_ BK355 hb
 replace HB := bS_ hb
 (try clear hb)
 (try clear hb2)
 (try clear hk)
 (try clear hi)
 refine hK.out _ _ ⟨(blk_cell BK355.out 0).trans rfl, (blk_cell BK355.out 1).trans rfl, (blk_cell BK355.out 2).trans rfl, (blk_cell BK334.out 0).trans rfl, (blk_cell BK334.out 1).trans rfl, (blk_cell BK334.out 2).trans rfl⟩ (fun hHeld => ?_)
 clear hK K
 refine nm_ 36 ?_
 refine pure_ (i := 4) (N := some 37) (v := ?_) (a' := ?_) #[true, true, true, true, true] rfl rfl (by kernel_rfl) qzd (Or.inl ⟨by rfl, ?_⟩) ?_ ?_
 rotate_left
 {
 intro w'
 go_simp
 with_reducible rfl
 }
 rotate_left
 {
 simp only [qzs]
 rfl
 }
 refine done_ (by kernel_rfl) ?_
 obtain ⟨hcz50_0, hcz50_1, hcz50_2, hfz50_0, hfz50_1, hfz50_2⟩ := b6_ BK355.out
 go_upto_region 14 with (first | ((with_reducible refine gate_callee (f := 31) rfl ?_); refine goesL_ (some 40) rfl rfl Try.func31 (by kernel_rfl) rfl #[.agg #[.int .i64 t350, .int .i64 t351, .slice Ao39 t352.length co39], .int .i64 1] rfl qz2 ?_; (with_reducible refine (laws_markFloor.calls k t350 t351 (fun k_ => some k_ = (.slice Ao39 t352.length co39 : Value).ownBlock) (.slice Ao39 t352.length co39) t352 1 t371 t372 w _ ?side1 ?side2 A21.out).mono ?_); (case side1 => exact qz1); (case side2 => exact Kd.R_tight rfl HO354.out); rintro e w51 ⟨rfl, hy0, hb, hkp⟩; refine ⟨_, rfl, ?_⟩; replace BK334 := aM (blk_kept (bk_ BK334.out) hkp (fun hs_ => (fun e_ => (Kd.R_ne HO354.out BK334.out (by decide)) e_) hs_)); replace BK335 := aM (blk_kept (bk_ BK335.out) hkp (fun hs_ => (fun e_ => (Kd.R_ne HO354.out BK335.out (by decide)) e_) hs_)); replace HO341 := aM (Kd.R_mono (ok' := fun k_ => some k_ ≠ (.slice Ao45 t347.length co45 : Value).ownBlock ∧ some k_ ≠ (.slice Ao39 t352.length co39 : Value).ownBlock ∧ some k_ ≠ (.slice Ao44 t361.length co44 : Value).ownBlock ∧ some k_ ≠ (.slice Ao48 t367.length co48 : Value).ownBlock) (Kd.R_keptB (HO341.out) hkp (fun k_ hk_ hs_ => (hk_.1.1.2) hs_)) (fun k_ hk_ => ⟨hk_.1.1.1.1, hk_.1.1.1.2, hk_.1.1.2, hk_.1.2⟩)); replace HO349 := aM (Kd.R_mono (ok' := fun k_ => some k_ ≠ (.slice Ao31 t339.length co31 : Value).ownBlock ∧ some k_ ≠ (.slice Ao39 t352.length co39 : Value).ownBlock ∧ some k_ ≠ (.slice Ao44 t361.length co44 : Value).ownBlock ∧ some k_ ≠ (.slice Ao48 t367.length co48 : Value).ownBlock) (Kd.R_keptB (HO349.out) hkp (fun k_ hk_ hs_ => (hk_.1.1.2) hs_)) (fun k_ hk_ => ⟨hk_.1.1.1.1, hk_.1.1.1.2, hk_.1.1.2, hk_.1.2⟩)); replace BK355 := aM (blk_kept (bk_ BK355.out) hkp (fun hs_ => (fun e_ => (Kd.R_ne HO354.out BK355.out (by decide)) e_) hs_)); replace HO354 := aM (Kd.R_reok rfl hy0 (fun k_ e_ => HO354.out.1 k_ e_)); replace HO363 := aM (Kd.R_mono (ok' := fun k_ => some k_ ≠ (.slice Ao31 t339.length co31 : Value).ownBlock ∧ some k_ ≠ (.slice Ao45 t347.length co45 : Value).ownBlock ∧ some k_ ≠ (.slice Ao39 t352.length co39 : Value).ownBlock ∧ some k_ ≠ (.slice Ao48 t367.length co48 : Value).ownBlock) (Kd.R_keptB (HO363.out) hkp (fun k_ hk_ hs_ => (hk_.1.2) hs_)) (fun k_ hk_ => ⟨hk_.1.1.1.1.2, hk_.1.1.1.2, hk_.1.1.2, hk_.1.2⟩)); replace HO369 := aM (Kd.R_mono (ok' := fun k_ => some k_ ≠ (.slice Ao31 t339.length co31 : Value).ownBlock ∧ some k_ ≠ (.slice Ao45 t347.length co45 : Value).ownBlock ∧ some k_ ≠ (.slice Ao39 t352.length co39 : Value).ownBlock ∧ some k_ ≠ (.slice Ao44 t361.length co44 : Value).ownBlock) (Kd.R_keptB (HO369.out) hkp (fun k_ hk_ hs_ => (hk_.1.2) hs_)) (fun k_ hk_ => ⟨hk_.1.1.1.1.2, hk_.1.1.1.2, hk_.1.1.2, hk_.1.2⟩)); replace HB := aM (hb); (try clear hb); (try clear hkp); (try clear hy0)))
 (try simp only [Act.put, List.setIfInBounds_toArray, List.set_cons_zero, List.set_cons_succ])
 go_cut [48] (fun v48 wc => ∃ (kq : Nat) (x48_21 : Bool), v48 = .bool x48_21 ∧ Aside0 (laws_FnExactChoices.j0 kq t347 t361 x48_21 a0_0 a0_1 l0_2 a1_0 a1_1 a1_2 a1_3 a1_4 = some r) ∧ Aside0 (kq ≤ k) ∧ Aside0 (Kd.R (Kd.int .i64) 3 wc w.heap.size (fun k_ => some k_ ≠ ((.slice Ao44 t361.length co44) : Value).ownBlock ∧ some k_ ≠ ((.slice Ao39 t352.length co39) : Value).ownBlock) (.slice Ao45 t347.length co45) t347) ∧ Aside0 (Kd.R (Kd.int .i64) 3 wc w.heap.size (fun k_ => some k_ ≠ ((.slice Ao45 t347.length co45) : Value).ownBlock ∧ some k_ ≠ ((.slice Ao39 t352.length co39) : Value).ownBlock) (.slice Ao44 t361.length co44) t361) ∧ Aside0 (Kd.R (Kd.int .i64) 3 wc w.heap.size (fun k_ => some k_ ≠ ((.slice Ao45 t347.length co45) : Value).ownBlock ∧ some k_ ≠ ((.slice Ao44 t361.length co44) : Value).ownBlock) (.slice Ao39 t352.length co39) t372) ∧ Aside0 (wc.heap[gb334]? = some (.cells #[.int .i64 a0_0, .int .i64 a0_1, (.slice A0_2 l0_2.length c0_2)] 39 (0, 0))) ∧ Aside0 (wc.heap[gb335]? = some (.cells #[.int .i64 a1_0, .int .i64 a1_1, .int .i64 a1_2, .bool a1_3, .int .i64 a1_4] 40 (0, 0))) ∧ Aside0 (wc.heap[gb355]? = some (.cells #[.int .i64 t350, .int .i64 t351, (.slice Ao39 t352.length co39)] 43 (0, 0))) ∧ Aside0 (Below w.heap.size w wc))
 case first =>
  have H := HC22.out
  clear HC22
  by_cases c52 : t371 < 0
  {
  rw [if_pos c52] at H
  have c52b0 := decide_eq_true c52
  clear c52
  (first | rw [c52b0] | (simp only [i64_w, i32_w]; rw [c52b0]) | rw [@decide_eq_true _ _ (of_decide_eq_true c52b0)] | rw [@decide_eq_true _ _ (of_decide_eq_true c52b1)] | skip)
  have H' := aM H
  clear H
  go_wp2
  go_meet
  case rel => exact ⟨_, (true), qz4, H', ⟨by first | omega | exact Nat.le_refl _⟩, ⟨by (with_reducible repeat (first | apply Kd.R_alloc | apply Kd.R_drewN | apply Kd.R_drew)); exact Kd.R_mono HO349.out (fun _ hk => ⟨hk.2.2.1, hk.2.1⟩)⟩, ⟨by (with_reducible repeat (first | apply Kd.R_alloc | apply Kd.R_drewN | apply Kd.R_drew)); exact Kd.R_mono HO363.out (fun _ hk => ⟨hk.2.1, hk.2.2.1⟩)⟩, ⟨by (with_reducible repeat (first | apply Kd.R_alloc | apply Kd.R_drewN | apply Kd.R_drew)); exact Kd.R_mono HO354.out (fun _ hk => ⟨hk.1.1.2, hk.1.2⟩)⟩, ⟨bk_ BK334.out⟩, ⟨bk_ BK335.out⟩, ⟨bk_ BK355.out⟩, ⟨qz1⟩⟩
  }
  {
  rw [if_neg c52] at H
  have c52b0 := decide_eq_false c52
  clear c52
  (first | rw [c52b0] | (simp only [i64_w, i32_w]; rw [c52b0]) | rw [@decide_eq_false _ _ (of_decide_eq_false c52b0)] | rw [@decide_eq_false _ _ (of_decide_eq_false c52b1)] | skip)
  replace H := Option.bind_eq_some_iff.mp H
  obtain ⟨t373, A530, H⟩ := H
  replace H : (laws_FnExactChoices.j0 k t347 t361 (!t373) a0_0 a0_1 l0_2 a1_0 a1_1 a1_2 a1_3 a1_4) = some r := H
  have A53 := aM A530
  clear A530
  have H' := aM H
  clear H
  go_wp2_with (first | (go_at_call 18; (with_reducible refine (laws_eqIntS.calls k _ _ t361 _ _ t347 t373 _ ?side1 ?side2 ?side3 ?side4 A53.out).mono ?_); (case side1 => repeat (first | exact (Kd.R_reads' HO363.out).2.2 | (with_reducible refine Kd.C_alloc ?_ _) | (with_reducible refine Kd.C_drewN ?_ _) | (with_reducible refine Kd.C_drew ?_))); (case side2 => exact (Kd.R_reads' HO363.out).2.1); (case side3 => repeat (first | exact (Kd.R_reads' HO349.out).2.2 | (with_reducible refine Kd.C_alloc ?_ _) | (with_reducible refine Kd.C_drewN ?_ _) | (with_reducible refine Kd.C_drew ?_))); (case side4 => exact (Kd.R_reads' HO349.out).2.1); rintro e w' ⟨rfl, ⟨nd, rfl⟩⟩))
  go_meet
  case rel => exact ⟨_, (!t373), qz4, H', ⟨by first | omega | exact Nat.le_refl _⟩, ⟨by (with_reducible repeat (first | apply Kd.R_alloc | apply Kd.R_drewN | apply Kd.R_drew)); exact Kd.R_mono HO349.out (fun _ hk => ⟨hk.2.2.1, hk.2.1⟩)⟩, ⟨by (with_reducible repeat (first | apply Kd.R_alloc | apply Kd.R_drewN | apply Kd.R_drew)); exact Kd.R_mono HO363.out (fun _ hk => ⟨hk.2.1, hk.2.2.1⟩)⟩, ⟨by (with_reducible repeat (first | apply Kd.R_alloc | apply Kd.R_drewN | apply Kd.R_drew)); exact Kd.R_mono HO354.out (fun _ hk => ⟨hk.1.1.2, hk.1.2⟩)⟩, ⟨bk_ BK334.out⟩, ⟨bk_ BK335.out⟩, ⟨bk_ BK355.out⟩, ⟨qz1⟩⟩
  }
 case rest =>
  clear HC22
  try clear c1
  try clear c2
  try clear p2
  try clear c3
  try clear c4
  try clear c4b0
  try clear c5
  try clear c7
  try clear c17
  try clear c18
  try clear c20
  try clear c25
  try clear c26
  try clear c27
  try clear c28
  try clear c29
  try clear c30
  try clear c31
  try clear c36
  try clear c37
  try clear c52
  try clear c52b0
  try clear c52b1
  try clear hcz26_0 hcz26_1 hcz26_2 hfz26_0 hfz26_1 hfz26_2
  try clear hcz33_0 hcz33_1 hcz33_2 hfz33_0 hfz33_1 hfz33_2
  try clear hcz38_0 hcz38_1 hcz38_2 hfz38_0 hfz38_1 hfz38_2
  try clear hcz50_0 hcz50_1 hcz50_2 hfz50_0 hfz50_1 hfz50_2
  try clear hcz8_0 hcz8_1 hcz8_2 hfz8_0 hfz8_1 hfz8_2
  obtain ⟨kq, x48_21, rfl, HA, HJ21, HO_6, HO_8, HO_356002, BK334, BK335, BK355, HB⟩ := hcut
  have hl356002_21 := (Kd.R_reads' HO_356002.out).1
  rw [hl356002_21] at HO_356002
  (try simp only [hl356002_21])
  (try simp only [hl356002_21] at BK334)
  (try simp only [hl356002_21] at BK335)
  (try simp only [hl356002_21] at BK355)
  (try simp only [hl356002_21] at HO_6)
  (try simp only [hl356002_21] at HO_8)
  cases kq with
  | zero => exact absurd HA.out (by simp [laws_FnExactChoices.j0])
  | succ kj21 =>
   have H := HA.out
   clear HA
   simp only [laws_FnExactChoices.j0] at H
   by_cases c54 : x48_21 = true
   {
   subst c54
   rw [if_pos rfl] at H
   obtain rfl := Option.some.inj H
   exact absurd HTR_.out (by decide)
   }
   {
   replace c54 := Bool.eq_false_iff.mpr c54
   subst c54
   rw [if_neg (show ¬ (false = true) by decide)] at H
   replace H := Option.bind_eq_some_iff.mp H
   obtain ⟨⟨t374, t375⟩, A550, H⟩ := H
   replace H : ((laws_heldIntS.f kj21 t375 1).bind fun t376 => (if t376 < 0 then (some false) else (if t376 = t374 then ((laws_toFloor.f kj21 a0_0 a0_1 l0_2).bind fun bt377 => ((laws_toRobot.f a1_0 a1_1 a1_2 a1_3 a1_4).bind fun bt382 => ((impl_Choices.f kj21 bt377.1 bt377.2.1 bt377.2.2 bt382.1 bt382.2.1 bt382.2.2.1 bt382.2.2.2.1 bt382.2.2.2.2).bind fun t387 => ((laws_eqIntS.f kj21 t387 t347).bind fun t390 => (if t390 = true then ((laws_heldIntS.f kj21 t375 1).bind fun t391 => (if t391 < 0 then (some false) else (if t391 = t374 then (some true) else (some false)))) else (some false)))))) else (some false)))) = some r := H
   have A55 := aM A550
   clear A550
   replace H := Option.bind_eq_some_iff.mp H
   obtain ⟨t376, A560, H⟩ := H
   replace H : (if t376 < 0 then (some false) else (if t376 = t374 then ((laws_toFloor.f kj21 a0_0 a0_1 l0_2).bind fun bt377 => ((laws_toRobot.f a1_0 a1_1 a1_2 a1_3 a1_4).bind fun bt382 => ((impl_Choices.f kj21 bt377.1 bt377.2.1 bt377.2.2 bt382.1 bt382.2.1 bt382.2.2.1 bt382.2.2.2.1 bt382.2.2.2.2).bind fun t387 => ((laws_eqIntS.f kj21 t387 t347).bind fun t390 => (if t390 = true then ((laws_heldIntS.f kj21 t375 1).bind fun t391 => (if t391 < 0 then (some false) else (if t391 = t374 then (some true) else (some false)))) else (some false)))))) else (some false))) = some r := H
   have A56 := aM A560
   clear A560
   by_cases c57 : t376 < 0
   {
   rw [if_pos c57] at H
   have c57b0 := decide_eq_true c57
   clear c57
   obtain rfl := Option.some.inj H
   exact absurd HTR_.out (by decide)
   }
   {
   rw [if_neg c57] at H
   have c57b0 := decide_eq_false c57
   clear c57
   by_cases c58 : t376 = t374
   {
   rw [if_pos c58] at H
   have c58b0 := beq_iff_eq.mpr c58
   have c58b1 := bne_eq_false_iff_eq.mpr c58
   clear c58
   replace H := Option.bind_eq_some_iff.mp H
   obtain ⟨⟨t377, t378, t379⟩, A590, H⟩ := H
   replace H : ((laws_toRobot.f a1_0 a1_1 a1_2 a1_3 a1_4).bind fun bt382 => ((impl_Choices.f kj21 t377 t378 t379 bt382.1 bt382.2.1 bt382.2.2.1 bt382.2.2.2.1 bt382.2.2.2.2).bind fun t387 => ((laws_eqIntS.f kj21 t387 t347).bind fun t390 => (if t390 = true then ((laws_heldIntS.f kj21 t375 1).bind fun t391 => (if t391 < 0 then (some false) else (if t391 = t374 then (some true) else (some false)))) else (some false))))) = some r := H
   have A59 := aM A590
   clear A590
   replace H := Option.bind_eq_some_iff.mp H
   obtain ⟨⟨t382, t383, t384, t385, t386⟩, A600, H⟩ := H
   replace H : ((impl_Choices.f kj21 t377 t378 t379 t382 t383 t384 t385 t386).bind fun t387 => ((laws_eqIntS.f kj21 t387 t347).bind fun t390 => (if t390 = true then ((laws_heldIntS.f kj21 t375 1).bind fun t391 => (if t391 < 0 then (some false) else (if t391 = t374 then (some true) else (some false)))) else (some false)))) = some r := H
   have A60 := aM A600
   clear A600
   replace H := Option.bind_eq_some_iff.mp H
   obtain ⟨t387, A610, H⟩ := H
   replace H : ((laws_eqIntS.f kj21 t387 t347).bind fun t390 => (if t390 = true then ((laws_heldIntS.f kj21 t375 1).bind fun t391 => (if t391 < 0 then (some false) else (if t391 = t374 then (some true) else (some false)))) else (some false))) = some r := H
   have A61 := aM A610
   clear A610
   replace H := Option.bind_eq_some_iff.mp H
   obtain ⟨t390, A620, H⟩ := H
   replace H : (if t390 = true then ((laws_heldIntS.f kj21 t375 1).bind fun t391 => (if t391 < 0 then (some false) else (if t391 = t374 then (some true) else (some false)))) else (some false)) = some r := H
   have A62 := aM A620
   clear A620
   by_cases c63 : t390 = true
   {
   subst c63
   rw [if_pos rfl] at H
   replace H := Option.bind_eq_some_iff.mp H
   obtain ⟨t391, A640, H⟩ := H
   replace H : (if t391 < 0 then (some false) else (if t391 = t374 then (some true) else (some false))) = some r := H
   have A64 := aM A640
   clear A640
   by_cases c65 : t391 < 0
   {
   rw [if_pos c65] at H
   have c65b0 := decide_eq_true c65
   clear c65
   obtain rfl := Option.some.inj H
   exact absurd HTR_.out (by decide)
   }
   {
   rw [if_neg c65] at H
   have c65b0 := decide_eq_false c65
   clear c65
   by_cases c66 : t391 = t374
   {
   rw [if_pos c66] at H
   have c66b0 := beq_iff_eq.mpr c66
   have c66b1 := bne_eq_false_iff_eq.mpr c66
   clear c66
   obtain rfl := Option.some.inj H
   simp only [Option.some.injEq, Prod.mk.injEq] at H
   obtain ⟨rfl⟩ := H
   try go_wp2_with (first | ((with_reducible refine gate_callee (f := 21) rfl ?_); refine goesL_ (some 51) rfl rfl Try.func21 (by kernel_rfl) rfl #[.slice Ao44 t361.length co44, .int .i64 1] rfl qz2 ?_; (with_reducible refine (laws_markIntS.calls kj21 (fun k_ => some k_ = (.slice Ao44 t361.length co44 : Value).ownBlock) (.slice Ao44 t361.length co44) t361 1 t374 t375 w _ ?side1 ?side2 A55.out).mono ?_); (case side1 => exact qz1); (case side2 => exact Kd.R_tight rfl HO_8.out); rintro e w67 ⟨rfl, hy0, hb, hkp⟩; refine ⟨_, rfl, ?_⟩; replace HO_6 := aM (Kd.R_mono (ok' := fun k_ => some k_ ≠ (.slice Ao44 t361.length co44 : Value).ownBlock ∧ some k_ ≠ (.slice Ao39 t372.length co39 : Value).ownBlock) (Kd.R_keptB (HO_6.out) hkp (fun k_ hk_ hs_ => (hk_.1) hs_)) (fun k_ hk_ => ⟨hk_.1.1, hk_.1.2⟩)); replace HO_356002 := aM (Kd.R_mono (ok' := fun k_ => some k_ ≠ (.slice Ao45 t347.length co45 : Value).ownBlock ∧ some k_ ≠ (.slice Ao44 t361.length co44 : Value).ownBlock) (Kd.R_keptB (HO_356002.out) hkp (fun k_ hk_ hs_ => (hk_.2) hs_)) (fun k_ hk_ => ⟨hk_.1.1, hk_.1.2⟩)); replace BK334 := aM (blk_kept (bk_ BK334.out) hkp (fun hs_ => (fun e_ => (Kd.R_ne HO_8.out BK334.out (by decide)) e_) hs_)); replace BK335 := aM (blk_kept (bk_ BK335.out) hkp (fun hs_ => (fun e_ => (Kd.R_ne HO_8.out BK335.out (by decide)) e_) hs_)); replace BK355 := aM (blk_kept (bk_ BK355.out) hkp (fun hs_ => (fun e_ => (Kd.R_ne HO_8.out BK355.out (by decide)) e_) hs_)); replace HO_8 := aM (Kd.R_reok rfl hy0 (fun k_ e_ => HO_8.out.1 k_ e_)); replace HB := aM (hb); (try clear hb); (try clear hkp); (try clear hy0)) | ((with_reducible refine gate_callee (f := 22) rfl ?_); refine goesL_ (some 54) rfl rfl Try.func22 (by kernel_rfl) rfl #[.slice Ao44 t375.length co44, .int .i64 1] rfl qz13 ?_; (with_reducible refine (laws_heldIntS.calls kj21 _ _ t375 1 t376 _ ?side1 ?side2 A56.out).mono ?_); (case side1 => repeat (first | exact (Kd.R_reads' HO_8.out).2.2 | (with_reducible refine Kd.C_alloc ?_ _) | (with_reducible refine Kd.C_drewN ?_ _) | (with_reducible refine Kd.C_drew ?_))); (case side2 => rw [show t375.length = t361.length from (Kd.R_reads' HO_8.out).1.symm]; exact (Kd.R_reads' HO_8.out).2.1); rintro e w' ⟨rfl, ⟨nd, rfl⟩⟩; refine ⟨_, rfl, ?_⟩))
   (try (rw [drewN_self w67]; generalize hq_ : World.drewN w67 _ = w67; replace HO_356002 : Aside0 (Kd.R (Kd.int .i64) 3 w67 w.heap.size (fun k_ => (some k_ ≠ (.slice Ao45 t347.length co45 : Value).ownBlock ∧ some k_ ≠ (.slice Ao44 t361.length co44 : Value).ownBlock)) (.slice Ao39 t372.length co39) t372) := ⟨by rw [← hq_]; exact (rr_ HO_356002.out)⟩; replace HO_6 : Aside0 (Kd.R (Kd.int .i64) 3 w67 w.heap.size (fun k_ => (some k_ ≠ (.slice Ao44 t361.length co44 : Value).ownBlock ∧ some k_ ≠ (.slice Ao39 t372.length co39 : Value).ownBlock)) (.slice Ao45 t347.length co45) t347) := ⟨by rw [← hq_]; exact (rr_ HO_6.out)⟩; replace HO_8 : Aside0 (Kd.R (Kd.int .i64) 3 w67 w.heap.size (fun k_ => (some k_ ≠ (.slice Ao45 t347.length co45 : Value).ownBlock ∧ some k_ ≠ (.slice Ao39 t372.length co39 : Value).ownBlock)) (.slice Ao44 t361.length co44) t375) := ⟨by rw [← hq_]; exact (rr_ HO_8.out)⟩; replace BK334 : Aside0 (w67.heap[gb334]? = some (.cells #[.int .i64 a0_0, .int .i64 a0_1, .slice A0_2 l0_2.length c0_2] 39 (0, 0))) := ⟨by rw [← hq_]; exact (bk_ BK334.out)⟩; replace BK335 : Aside0 (w67.heap[gb335]? = some (.cells #[.int .i64 a1_0, .int .i64 a1_1, .int .i64 a1_2, .bool a1_3, .int .i64 a1_4] 40 (0, 0))) := ⟨by rw [← hq_]; exact (bk_ BK335.out)⟩; replace BK355 : Aside0 (w67.heap[gb355]? = some (.cells #[.int .i64 t350, .int .i64 t351, .slice Ao39 t372.length co39] 43 (0, 0))) := ⟨by rw [← hq_]; exact (bk_ BK355.out)⟩; replace HB : Aside0 (Below w.heap.size w w67) := ⟨by rw [← hq_]; exact qz1⟩; clear hq_))
   replace HO_6 := aM (Kd.R_drew HO_6.out)
   replace HO_8 := aM (Kd.R_drew HO_8.out)
   replace HO_356002 := aM (Kd.R_drew HO_356002.out)
   replace BK334 := aM (blk_drew BK334.out)
   replace BK335 := aM (blk_drew BK335.out)
   replace BK355 := aM (blk_drew BK355.out)
   replace HB := aM (below_drew1 HB.out)
   refine start_ (n := 6) (S := fun w' => w'.cell? ⟨gb334, 0, none⟩ = some (.int .i64 a0_0) ∧ w'.cell? ⟨gb334, 1, none⟩ = some (.int .i64 a0_1) ∧ w'.cell? ⟨gb334, 2, none⟩ = some (.slice A0_2 l0_2.length c0_2) ∧ w'.cell? ⟨gb335, 0, none⟩ = some (.int .i64 a1_0) ∧ w'.cell? ⟨gb335, 1, none⟩ = some (.int .i64 a1_1) ∧ w'.cell? ⟨gb335, 2, none⟩ = some (.int .i64 a1_2) ∧ w'.cell? ⟨gb335, 3, none⟩ = some (.bool a1_3) ∧ w'.cell? ⟨gb335, 4, none⟩ = some (.int .i64 a1_4)) (ds := []) #[false, false, false, false, false, false] (by kernel_rfl) rfl rfl ⟨(blk_cell BK334.out 0).trans rfl, (blk_cell BK334.out 1).trans rfl, (blk_cell BK334.out 2).trans rfl, (blk_cell BK335.out 0).trans rfl, (blk_cell BK335.out 1).trans rfl, (blk_cell BK335.out 2).trans rfl, (blk_cell BK335.out 3).trans rfl, (blk_cell BK335.out 4).trans rfl⟩ (fun hHeld => ?_)
   generalize w67.drew = w68 at HO_6 HO_8 HO_356002 BK334 BK335 BK355 HB hHeld ⊢
   refine take_ (i := 0) (N := some 60) (v := ?_) (a' := ?_) #[true, false, false, false, false, false] rfl rfl (by kernel_rfl) qzd (Or.inl ⟨by rfl, ?_⟩) hHeld ?_ ?_
   rotate_left
   {
   rintro w' ⟨s0, s1, s2, s3, s4, s5, s6, s7⟩
   go_simp
   with_reducible rfl
   }
   rotate_left
   {
   simp only [qzs]
   rfl
   }
   refine take_ (i := 2) (N := some 62) (v := ?_) (a' := ?_) #[true, false, true, false, false, false] rfl rfl (by kernel_rfl) qzd (Or.inl ⟨by rfl, ?_⟩) hHeld ?_ ?_
   rotate_left
   {
   rintro w' ⟨s0, s1, s2, s3, s4, s5, s6, s7⟩
   go_simp
   with_reducible rfl
   }
   rotate_left
   {
   simp only [qzs]
   rfl
   }
   refine one_ (i := 1) (N := some 61) #[true, true, true, false, false, false] rfl rfl (by kernel_rfl) (by decide) (fun K hK => ?_)
   refine goes_ Try.func27 (by kernel_rfl) rfl #[.agg #[.int .i64 a0_0, .int .i64 a0_1, .slice A0_2 l0_2.length c0_2]] (by rfl) rfl rfl qz2 ?_
   with_reducible refine (laws_toFloor.calls kj21 a0_0 a0_1 _ _ l0_2 t377 t378 t379 _ ?side1 ?side2 A59.out).mono ?_
   (case side1 => exact qz3)
   (case side2 => exact HC0_2.out)
   rintro e w69 ⟨v380, rfl, ho0, hb⟩
   refine ⟨_, rfl, ?_⟩
   have HO381 := aM (Kd.R_lower (Kd.R_new' (Kd.R_new' (Kd.R_new' ho0 (Kd.R_lt (rr_ HO_6.out))) (Kd.R_lt (rr_ HO_8.out))) (Kd.R_lt (rr_ HO_356002.out))) (below_size qz1))
   replace HO_6 := aM (Kd.R_elder' (rr_ HO_6.out) (Kd.R_base ho0) hb)
   replace HO_8 := aM (Kd.R_elder' (rr_ HO_8.out) (Kd.R_base ho0) hb)
   replace HO_356002 := aM (Kd.R_elder' (rr_ HO_356002.out) (Kd.R_base ho0) hb)
   replace BK334 := bB_ BK334 hb
   replace BK335 := bB_ BK335 hb
   replace BK355 := bB_ BK355 hb
   replace HB := bS_ hb
   (try clear hb)
   (try clear hb2)
   (try clear hk)
   (try clear hi)
   (try clear ho0)
   refine hK.out _ _ ⟨(blk_cell BK334.out 0).trans rfl, (blk_cell BK334.out 1).trans rfl, (blk_cell BK334.out 2).trans rfl, (blk_cell BK335.out 0).trans rfl, (blk_cell BK335.out 1).trans rfl, (blk_cell BK335.out 2).trans rfl, (blk_cell BK335.out 3).trans rfl, (blk_cell BK335.out 4).trans rfl⟩ (fun hHeld => ?_)
   clear hK K
   refine nm_ 61 ?_
   refine one_ (i := 3) (N := some 63) #[true, true, true, true, false, false] rfl rfl (by kernel_rfl) (by decide) (fun K hK => ?_)
   refine goes_ Try.func28 (by kernel_rfl) rfl #[.agg #[.int .i64 a1_0, .int .i64 a1_1, .int .i64 a1_2, .bool a1_3, .int .i64 a1_4]] (by rfl) rfl rfl qz2 ?_
   with_reducible refine (laws_toRobot.calls a1_0 a1_1 a1_2 a1_3 a1_4 t382 t383 t384 t385 t386 _ A60.out).mono ?_
   rintro e w70 ⟨rfl, hb⟩
   refine ⟨_, rfl, ?_⟩
   replace HO_6 := aM (Kd.R_below (rr_ HO_6.out) hb)
   replace HO_8 := aM (Kd.R_below (rr_ HO_8.out) hb)
   replace HO_356002 := aM (Kd.R_below (rr_ HO_356002.out) hb)
   replace HO381 := aM (Kd.R_below (rr_ HO381.out) hb)
   replace BK334 := bB_ BK334 hb
   replace BK335 := bB_ BK335 hb
   replace BK355 := bB_ BK355 hb
   replace HB := bS_ hb
   (try clear hb)
   (try clear hb2)
   (try clear hk)
   (try clear hi)
   obtain ⟨Ao71, co71, eo71⟩ := Kd.R_slice HO381.out
   (first | subst eo71 | (injection eo71 with f1_ f2_ f3_; have f4_ := f1_.symm; have f5_ := f3_.symm; clear f1_ f2_ f3_; subst f4_; subst f5_))
   refine hK.out _ _ ⟨(blk_cell BK334.out 0).trans rfl, (blk_cell BK334.out 1).trans rfl, (blk_cell BK334.out 2).trans rfl, (blk_cell BK335.out 0).trans rfl, (blk_cell BK335.out 1).trans rfl, (blk_cell BK335.out 2).trans rfl, (blk_cell BK335.out 3).trans rfl, (blk_cell BK335.out 4).trans rfl⟩ (fun hHeld => ?_)
   clear hK K
   refine nm_ 63 ?_
   refine one_ (i := 4) (N := some 64) #[true, true, true, true, true, false] rfl rfl (by kernel_rfl) (by decide) (fun K hK => ?_)
   refine goes_ Try.func29 (by kernel_rfl) rfl #[.agg #[.int .i64 t377, .int .i64 t378, .slice Ao71 t379.length co71], .agg #[.int .i64 t382, .int .i64 t383, .int .i64 t384, .bool t385, .int .i64 t386]] (by rfl) rfl rfl qz2 ?_
   with_reducible refine (impl_Choices.calls kj21 t377 t378 _ _ t379 t382 t383 t384 t385 t386 t387 _ ?side1 ?side2 A61.out).mono ?_
   (case side1 => repeat (first | exact (Kd.R_reads' HO381.out).2.2 | (with_reducible refine Kd.C_alloc ?_ _) | (with_reducible refine Kd.C_drewN ?_ _) | (with_reducible refine Kd.C_drew ?_)))
   (case side2 => exact (Kd.R_reads' HO381.out).2.1)
   rintro e w72 ⟨v388, rfl, ho0, hb⟩
   refine ⟨_, rfl, ?_⟩
   have HO389 := aM (Kd.R_lower (Kd.R_new' (Kd.R_new' (Kd.R_new' (Kd.R_new' ho0 (Kd.R_lt (rr_ HO_6.out))) (Kd.R_lt (rr_ HO_8.out))) (Kd.R_lt (rr_ HO_356002.out))) (Kd.R_lt (rr_ HO381.out))) (below_size qz1))
   replace HO_6 := aM (Kd.R_elder' (rr_ HO_6.out) (Kd.R_base ho0) hb)
   replace HO_8 := aM (Kd.R_elder' (rr_ HO_8.out) (Kd.R_base ho0) hb)
   replace HO_356002 := aM (Kd.R_elder' (rr_ HO_356002.out) (Kd.R_base ho0) hb)
   replace HO381 := aM (Kd.R_elder' (rr_ HO381.out) (Kd.R_base ho0) hb)
   replace BK334 := bB_ BK334 hb
   replace BK335 := bB_ BK335 hb
   replace BK355 := bB_ BK355 hb
   replace HB := bS_ hb
   (try clear hb)
   (try clear hb2)
   (try clear hk)
   (try clear hi)
   (try clear ho0)
   refine hK.out _ _ ⟨(blk_cell BK334.out 0).trans rfl, (blk_cell BK334.out 1).trans rfl, (blk_cell BK334.out 2).trans rfl, (blk_cell BK335.out 0).trans rfl, (blk_cell BK335.out 1).trans rfl, (blk_cell BK335.out 2).trans rfl, (blk_cell BK335.out 3).trans rfl, (blk_cell BK335.out 4).trans rfl⟩ (fun hHeld => ?_)
   clear hK K
   refine nm_ 64 ?_
   refine pure_ (i := 5) (N := some 12) (v := ?_) (a' := ?_) #[true, true, true, true, true, true] rfl rfl (by kernel_rfl) qzd (Or.inl ⟨by rfl, ?_⟩) ?_ ?_
   rotate_left
   {
   intro w'
   go_simp
   with_reducible rfl
   }
   rotate_left
   {
   simp only [qzs]
   rfl
   }
   refine done_ (by kernel_rfl) ?_
   obtain ⟨Ao73, co73, eo73⟩ := Kd.R_slice HO389.out
   subst eo73
   try go_wp2_with (first | ((with_reducible refine gate_callee (f := 18) rfl ?_); refine goesL_ (some 67) rfl rfl Try.func18 (by kernel_rfl) rfl #[.slice Ao73 t387.length co73, .slice Ao45 t347.length co45] rfl qz2 ?_; (with_reducible refine (laws_eqIntS.calls kj21 _ _ t387 _ _ t347 true _ ?side1 ?side2 ?side3 ?side4 A62.out).mono ?_); (case side1 => repeat (first | exact (Kd.R_reads' HO389.out).2.2 | (with_reducible refine Kd.C_alloc ?_ _) | (with_reducible refine Kd.C_drewN ?_ _) | (with_reducible refine Kd.C_drew ?_))); (case side2 => exact (Kd.R_reads' HO389.out).2.1); (case side3 => repeat (first | exact (Kd.R_reads' HO_6.out).2.2 | (with_reducible refine Kd.C_alloc ?_ _) | (with_reducible refine Kd.C_drewN ?_ _) | (with_reducible refine Kd.C_drew ?_))); (case side4 => exact (Kd.R_reads' HO_6.out).2.1); rintro e w' ⟨rfl, ⟨nd, rfl⟩⟩; refine ⟨_, rfl, ?_⟩) | ((with_reducible refine gate_callee (f := 22) rfl ?_); refine goesL_ (some 71) rfl rfl Try.func22 (by kernel_rfl) rfl #[.slice Ao44 t375.length co44, .int .i64 1] rfl qz13 ?_; (with_reducible refine (laws_heldIntS.calls kj21 _ _ t375 1 t391 _ ?side1 ?side2 A64.out).mono ?_); (case side1 => repeat (first | exact (Kd.R_reads' HO_8.out).2.2 | (with_reducible refine Kd.C_alloc ?_ _) | (with_reducible refine Kd.C_drewN ?_ _) | (with_reducible refine Kd.C_drew ?_))); (case side2 => rw [show t375.length = t361.length from (Kd.R_reads' HO_8.out).1.symm]; exact (Kd.R_reads' HO_8.out).2.1); rintro e w' ⟨rfl, ⟨nd, rfl⟩⟩; refine ⟨_, rfl, ?_⟩))
   go_ret
   exact ⟨qzw, qz1⟩
   }
   {
   rw [if_neg c66] at H
   have c66b0 := beq_eq_false_iff_ne.mpr c66
   have c66b1 := bne_iff_ne.mpr c66
   obtain rfl := Option.some.inj H
   exact absurd HTR_.out (by decide)
   }
   }
   }
   {
   replace c63 := Bool.eq_false_iff.mpr c63
   subst c63
   rw [if_neg (show ¬ (false = true) by decide)] at H
   obtain rfl := Option.some.inj H
   exact absurd HTR_.out (by decide)
   }
   }
   {
   rw [if_neg c58] at H
   have c58b0 := beq_eq_false_iff_ne.mpr c58
   have c58b1 := bne_iff_ne.mpr c58
   obtain rfl := Option.some.inj H
   exact absurd HTR_.out (by decide)
   }
   }
   }
 }
 {
 replace c20 := Bool.eq_false_iff.mpr c20
 subst c20
 rw [if_neg (show ¬ (false = true) by decide)] at H
 obtain rfl := Option.some.inj H
 exact absurd HTR_.out (by decide)
 }
 }
 {
 replace c17 := Bool.eq_false_iff.mpr c17
 subst c17
 rw [if_neg (show ¬ (false = true) by decide)] at H
 obtain rfl := Option.some.inj H
 exact absurd HTR_.out (by decide)

 }
 }
end Go.Proofs.Ytankmdbbgepmbaa.PFnExactChoices
