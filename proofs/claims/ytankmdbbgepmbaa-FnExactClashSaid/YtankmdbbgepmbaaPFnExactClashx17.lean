-- Made by a program of this session out of the translation. Lean checks it.
import Derived.Test.YtankmdbbgepmbaaPFnExactClashx9
import Derived.Test.YtankmdbbgepmbaaPFnExactClashx16
namespace Go.Proofs.Ytankmdbbgepmbaa.PFnExactClash
open Go.RowKit Go.Proofs.YtankmdbbgepmbaaW.PrintWords Go.Proofs.YtankmdbbgepmbaaW.PrintLast Go.Proofs.YtankmdbbgepmbaaW.PrintMore
attribute [local go_sem] max2_int min2_int max_two min_two max_three min_three max_four min_four   -- for this text's walks alone
set_option linter.unusedVariables false
set_option linter.unusedSimpArgs false

/-! ### laws_FnExactClash: function 7 -/
def laws_FnExactClash.f (k : Nat) (a0_0 : Int) (a0_1 : Int) (l0_2 : List Int) (l1 : List (S40)) (l2 : List Int) : Option (Bool) := if (l2.length : Int) > 1048576 then (some true) else ((laws_szFloor.f a0_0 a0_1 l0_2 1048576).bind fun t412 => (if t412 < 0 then (some true) else ((laws_szRobotS.f l1 t412).bind fun t413 => (if t413 < 0 then (some true) else ((laws_toFloor.f k a0_0 a0_1 l0_2).bind fun bt414 => ((laws_toRobotS.f k l1).bind fun t419 => ((laws_toIntS.f k l2).bind fun t422 => ((spec_Clash.f k bt414.1 bt414.2.1 bt414.2.2 t419 t422).bind fun t425 => ((laws_toFloor.f k a0_0 a0_1 l0_2).bind fun bt426 => ((laws_toRobotS.f k l1).bind fun t432 => ((laws_toIntS.f k l2).bind fun t435 => ((impl_Clash.f k bt426.1 bt426.2.1 bt426.2.2 t432 t435).bind fun t438 => (if t438 = t425 then ((laws_toFloor.f k a0_0 a0_1 l0_2).bind fun bt439 => ((laws_eqFloor.f k bt426.1 bt426.2.1 bt426.2.2 bt439.1 bt439.2.1 bt439.2.2).bind fun t444 => (if t444 = true then ((laws_toRobotS.f k l1).bind fun t445 => ((laws_eqRobotS.f k t432 t445).bind fun t448 => (if t448 = true then ((laws_toIntS.f k l2).bind fun t449 => ((laws_eqIntS.f k t435 t449).bind fun t452 => (if t452 = true then (some true) else (some false)))) else (some false)))) else (some false)))) else (some false))))))))))))))
theorem laws_FnExactClash.mono : ∀ a0 a1 a2 a3 a4 k, LeO (laws_FnExactClash.f k a0 a1 a2 a3 a4) (laws_FnExactClash.f (k + 1) a0 a1 a2 a3 a4) := by
 intro a0 a1 a2 a3 a4 k
 unfold laws_FnExactClash.f
 have j0 := @impl_Clash.mono
 have j1 := @laws_eqFloor.mono
 have j2 := @laws_eqIntS.mono
 have j3 := @laws_eqRobotS.mono
 have j4 := @laws_toFloor.mono
 have j5 := @laws_toIntS.mono
 have j6 := @laws_toRobotS.mono
 have j7 := @spec_Clash.mono
 exact qL
set_option maxHeartbeats 8000000 in
set_option maxRecDepth 100000 in
theorem laws_FnExactClash.calls (k : Nat) (a0_0 : Int) (a0_1 : Int) (A0_2 : Option Addr) (c0_2 : Nat) (l0_2 : List Int) (A1 : Option Addr) (c1 : Nat) (l1 : List (S40)) (A2 : Option Addr) (c2 : Nat) (l2 : List Int) (r : Bool) (w : World) (hr0_2 : Kd.C (Kd.int .i64) w A0_2 l0_2.length l0_2) (hc0_2 : l0_2.length ≤ c0_2) (hr1 : Kd.C k40 w A1 l1.length l1) (hc1 : l1.length ≤ c1) (hr2 : Kd.C (Kd.int .i64) w A2 l2.length l2) (hc2 : l2.length ≤ c2) (hT : r = true) (h : laws_FnExactClash.f k a0_0 a0_1 l0_2 l1 l2 = some r) :
  Calls Try.prog 7 #[.agg #[.int .i64 a0_0, .int .i64 a0_1, .slice A0_2 l0_2.length c0_2], .slice A1 l1.length c1, .slice A2 l2.length c2] w fun e w' => e = .returned (.bool r) ∧ Below w.heap.size w w' := by
 have HTR_ := aM hT
 clear hT
 have hu39 := Try.underlying39
 have hu43 := Try.underlying43
 have HR0_2 := aM hr0_2
 have HC0_2 := aM hc0_2
 clear hr0_2 hc0_2
 have HR1 := aM hr1
 have HC1 := aM hc1
 clear hr1 hc1
 have HR2 := aM hr2
 have HC2 := aM hc2
 clear hr2 hc2
 have HB := aM (Below.refl w.heap.size w)
 have H : (if (l2.length : Int) > 1048576 then (some true) else ((laws_szFloor.f a0_0 a0_1 l0_2 1048576).bind fun t412 => (if t412 < 0 then (some true) else ((laws_szRobotS.f l1 t412).bind fun t413 => (if t413 < 0 then (some true) else ((laws_toFloor.f k a0_0 a0_1 l0_2).bind fun bt414 => ((laws_toRobotS.f k l1).bind fun t419 => ((laws_toIntS.f k l2).bind fun t422 => ((spec_Clash.f k bt414.1 bt414.2.1 bt414.2.2 t419 t422).bind fun t425 => ((laws_toFloor.f k a0_0 a0_1 l0_2).bind fun bt426 => ((laws_toRobotS.f k l1).bind fun t432 => ((laws_toIntS.f k l2).bind fun t435 => ((impl_Clash.f k bt426.1 bt426.2.1 bt426.2.2 t432 t435).bind fun t438 => (if t438 = t425 then ((laws_toFloor.f k a0_0 a0_1 l0_2).bind fun bt439 => ((laws_eqFloor.f k bt426.1 bt426.2.1 bt426.2.2 bt439.1 bt439.2.1 bt439.2.2).bind fun t444 => (if t444 = true then ((laws_toRobotS.f k l1).bind fun t445 => ((laws_eqRobotS.f k t432 t445).bind fun t448 => (if t448 = true then ((laws_toIntS.f k l2).bind fun t449 => ((laws_eqIntS.f k t435 t449).bind fun t452 => (if t452 = true then (some true) else (some false)))) else (some false)))) else (some false)))) else (some false))))))))))))))) = some r := h
 clear h
 by_cases c4 : (l2.length : Int) > 1048576
 {
 rw [if_pos c4] at H
 have c4b0 := decide_eq_true c4
 have c4b1 : decide (1048576 < l2.length) = true := decide_eq_true (by omega)
 clear c4
 obtain rfl := Option.some.inj H
 simp only [Option.some.injEq, Prod.mk.injEq] at H
 obtain ⟨rfl⟩ := H
 go_enter Try.func7, Try.ntmps7
 go_wp2_with (first | ((with_reducible refine gate_dst (N := 3) rfl ?_); refine bx_ 3 #[.int .i64 a0_0, .int .i64 a0_1, .slice A0_2 l0_2.length c0_2] 39 ?_; intro gb411 hg w5 hbox hb; have BK411 := aM (hbox); have GW411 := aM (bz_ w hg qz1); have GE411 := GW411; replace HB := bS_ hb; clear hb hbox hg))
 go_ret
 exact ⟨qzw, qz1⟩
 }
 {
 rw [if_neg c4] at H
 have c4b0 := decide_eq_false c4
 have c4b1 : decide (1048576 < l2.length) = false := decide_eq_false (by omega)
 clear c4
 replace H := Option.bind_eq_some_iff.mp H
 obtain ⟨t412, A60, H⟩ := H
 replace H : (if t412 < 0 then (some true) else ((laws_szRobotS.f l1 t412).bind fun t413 => (if t413 < 0 then (some true) else ((laws_toFloor.f k a0_0 a0_1 l0_2).bind fun bt414 => ((laws_toRobotS.f k l1).bind fun t419 => ((laws_toIntS.f k l2).bind fun t422 => ((spec_Clash.f k bt414.1 bt414.2.1 bt414.2.2 t419 t422).bind fun t425 => ((laws_toFloor.f k a0_0 a0_1 l0_2).bind fun bt426 => ((laws_toRobotS.f k l1).bind fun t432 => ((laws_toIntS.f k l2).bind fun t435 => ((impl_Clash.f k bt426.1 bt426.2.1 bt426.2.2 t432 t435).bind fun t438 => (if t438 = t425 then ((laws_toFloor.f k a0_0 a0_1 l0_2).bind fun bt439 => ((laws_eqFloor.f k bt426.1 bt426.2.1 bt426.2.2 bt439.1 bt439.2.1 bt439.2.2).bind fun t444 => (if t444 = true then ((laws_toRobotS.f k l1).bind fun t445 => ((laws_eqRobotS.f k t432 t445).bind fun t448 => (if t448 = true then ((laws_toIntS.f k l2).bind fun t449 => ((laws_eqIntS.f k t435 t449).bind fun t452 => (if t452 = true then (some true) else (some false)))) else (some false)))) else (some false)))) else (some false))))))))))))) = some r := H
 have A6 := aM A60
 clear A60
 by_cases c7 : t412 < 0
 {
 rw [if_pos c7] at H
 have c7b0 := decide_eq_true c7
 clear c7
 obtain rfl := Option.some.inj H
 simp only [Option.some.injEq, Prod.mk.injEq] at H
 obtain ⟨rfl⟩ := H
 go_enter Try.func7, Try.ntmps7
 go_wp2_with (first | ((with_reducible refine gate_dst (N := 3) rfl ?_); refine bx_ 3 #[.int .i64 a0_0, .int .i64 a0_1, .slice A0_2 l0_2.length c0_2] 39 ?_; intro gb411 hg w8 hbox hb; have BK411 := aM (hbox); have GW411 := aM (bz_ w hg qz1); have GE411 := GW411; replace HB := bS_ hb; clear hb hbox hg; obtain ⟨hcz9_0, hcz9_1, hcz9_2, hfz9_0, hfz9_1, hfz9_2⟩ := b6_ BK411.out) | ((with_reducible refine gate_callee (f := 25) rfl ?_); refine goesL_ (some 18) rfl rfl Try.func25 (by kernel_rfl) rfl #[.agg #[.int .i64 a0_0, .int .i64 a0_1, .slice A0_2 l0_2.length c0_2], .int .i64 1048576] rfl qz2 ?_; (with_reducible refine (laws_szFloor.calls a0_0 a0_1 _ _ l0_2 1048576 t412 _ ?side1 ?side2 A6.out).mono ?_); (case side1 => exact qz3); (case side2 => exact qz23); rintro e w10 ⟨rfl, hb⟩; refine ⟨_, rfl, ?_⟩; replace BK411 := bB_ BK411 hb; replace HB := bS_ hb; (try clear hb)))
 go_ret
 exact ⟨qzw, qz1⟩
 }
 {
 rw [if_neg c7] at H
 have c7b0 := decide_eq_false c7
 clear c7
 replace H := Option.bind_eq_some_iff.mp H
 obtain ⟨t413, A110, H⟩ := H
 replace H : (if t413 < 0 then (some true) else ((laws_toFloor.f k a0_0 a0_1 l0_2).bind fun bt414 => ((laws_toRobotS.f k l1).bind fun t419 => ((laws_toIntS.f k l2).bind fun t422 => ((spec_Clash.f k bt414.1 bt414.2.1 bt414.2.2 t419 t422).bind fun t425 => ((laws_toFloor.f k a0_0 a0_1 l0_2).bind fun bt426 => ((laws_toRobotS.f k l1).bind fun t432 => ((laws_toIntS.f k l2).bind fun t435 => ((impl_Clash.f k bt426.1 bt426.2.1 bt426.2.2 t432 t435).bind fun t438 => (if t438 = t425 then ((laws_toFloor.f k a0_0 a0_1 l0_2).bind fun bt439 => ((laws_eqFloor.f k bt426.1 bt426.2.1 bt426.2.2 bt439.1 bt439.2.1 bt439.2.2).bind fun t444 => (if t444 = true then ((laws_toRobotS.f k l1).bind fun t445 => ((laws_eqRobotS.f k t432 t445).bind fun t448 => (if t448 = true then ((laws_toIntS.f k l2).bind fun t449 => ((laws_eqIntS.f k t435 t449).bind fun t452 => (if t452 = true then (some true) else (some false)))) else (some false)))) else (some false)))) else (some false))))))))))) = some r := H
 have A11 := aM A110
 clear A110
 by_cases c12 : t413 < 0
 {
 rw [if_pos c12] at H
 have c12b0 := decide_eq_true c12
 clear c12
 obtain rfl := Option.some.inj H
 simp only [Option.some.injEq, Prod.mk.injEq] at H
 obtain ⟨rfl⟩ := H
 go_enter Try.func7, Try.ntmps7
 go_wp2_with (first | ((with_reducible refine gate_dst (N := 3) rfl ?_); refine bx_ 3 #[.int .i64 a0_0, .int .i64 a0_1, .slice A0_2 l0_2.length c0_2] 39 ?_; intro gb411 hg w13 hbox hb; have BK411 := aM (hbox); have GW411 := aM (bz_ w hg qz1); have GE411 := GW411; replace HB := bS_ hb; clear hb hbox hg; obtain ⟨hcz14_0, hcz14_1, hcz14_2, hfz14_0, hfz14_1, hfz14_2⟩ := b6_ BK411.out) | ((with_reducible refine gate_callee (f := 25) rfl ?_); refine goesL_ (some 18) rfl rfl Try.func25 (by kernel_rfl) rfl #[.agg #[.int .i64 a0_0, .int .i64 a0_1, .slice A0_2 l0_2.length c0_2], .int .i64 1048576] rfl qz2 ?_; (with_reducible refine (laws_szFloor.calls a0_0 a0_1 _ _ l0_2 1048576 t412 _ ?side1 ?side2 A6.out).mono ?_); (case side1 => exact qz3); (case side2 => exact qz23); rintro e w15 ⟨rfl, hb⟩; refine ⟨_, rfl, ?_⟩; replace BK411 := bB_ BK411 hb; replace HB := bS_ hb; (try clear hb)) | ((with_reducible refine gate_callee (f := 14) rfl ?_); refine goesL_ (some 23) rfl rfl Try.func14 (by kernel_rfl) rfl #[.slice A1 l1.length c1, .int .i64 t412] rfl qz2 ?_; (with_reducible refine (laws_szRobotS.calls _ _ l1 t412 t413 _ ?side1 ?side2 A11.out).mono ?_); (case side1 => exact qz5); (case side2 => exact HC1.out); rintro e w' ⟨rfl, ⟨nd, rfl⟩⟩; refine ⟨_, rfl, ?_⟩))
 go_ret
 exact ⟨qzw, qz1⟩
 }
 {
 rw [if_neg c12] at H
 have c12b0 := decide_eq_false c12
 clear c12
 replace H := Option.bind_eq_some_iff.mp H
 obtain ⟨⟨t414, t415, t416⟩, A160, H⟩ := H
 replace H : ((laws_toRobotS.f k l1).bind fun t419 => ((laws_toIntS.f k l2).bind fun t422 => ((spec_Clash.f k t414 t415 t416 t419 t422).bind fun t425 => ((laws_toFloor.f k a0_0 a0_1 l0_2).bind fun bt426 => ((laws_toRobotS.f k l1).bind fun t432 => ((laws_toIntS.f k l2).bind fun t435 => ((impl_Clash.f k bt426.1 bt426.2.1 bt426.2.2 t432 t435).bind fun t438 => (if t438 = t425 then ((laws_toFloor.f k a0_0 a0_1 l0_2).bind fun bt439 => ((laws_eqFloor.f k bt426.1 bt426.2.1 bt426.2.2 bt439.1 bt439.2.1 bt439.2.2).bind fun t444 => (if t444 = true then ((laws_toRobotS.f k l1).bind fun t445 => ((laws_eqRobotS.f k t432 t445).bind fun t448 => (if t448 = true then ((laws_toIntS.f k l2).bind fun t449 => ((laws_eqIntS.f k t435 t449).bind fun t452 => (if t452 = true then (some true) else (some false)))) else (some false)))) else (some false)))) else (some false))))))))) = some r := H
 have A16 := aM A160
 clear A160
 replace H := Option.bind_eq_some_iff.mp H
 obtain ⟨t419, A170, H⟩ := H
 replace H : ((laws_toIntS.f k l2).bind fun t422 => ((spec_Clash.f k t414 t415 t416 t419 t422).bind fun t425 => ((laws_toFloor.f k a0_0 a0_1 l0_2).bind fun bt426 => ((laws_toRobotS.f k l1).bind fun t432 => ((laws_toIntS.f k l2).bind fun t435 => ((impl_Clash.f k bt426.1 bt426.2.1 bt426.2.2 t432 t435).bind fun t438 => (if t438 = t425 then ((laws_toFloor.f k a0_0 a0_1 l0_2).bind fun bt439 => ((laws_eqFloor.f k bt426.1 bt426.2.1 bt426.2.2 bt439.1 bt439.2.1 bt439.2.2).bind fun t444 => (if t444 = true then ((laws_toRobotS.f k l1).bind fun t445 => ((laws_eqRobotS.f k t432 t445).bind fun t448 => (if t448 = true then ((laws_toIntS.f k l2).bind fun t449 => ((laws_eqIntS.f k t435 t449).bind fun t452 => (if t452 = true then (some true) else (some false)))) else (some false)))) else (some false)))) else (some false)))))))) = some r := H
 have A17 := aM A170
 clear A170
 replace H := Option.bind_eq_some_iff.mp H
 obtain ⟨t422, A180, H⟩ := H
 replace H : ((spec_Clash.f k t414 t415 t416 t419 t422).bind fun t425 => ((laws_toFloor.f k a0_0 a0_1 l0_2).bind fun bt426 => ((laws_toRobotS.f k l1).bind fun t432 => ((laws_toIntS.f k l2).bind fun t435 => ((impl_Clash.f k bt426.1 bt426.2.1 bt426.2.2 t432 t435).bind fun t438 => (if t438 = t425 then ((laws_toFloor.f k a0_0 a0_1 l0_2).bind fun bt439 => ((laws_eqFloor.f k bt426.1 bt426.2.1 bt426.2.2 bt439.1 bt439.2.1 bt439.2.2).bind fun t444 => (if t444 = true then ((laws_toRobotS.f k l1).bind fun t445 => ((laws_eqRobotS.f k t432 t445).bind fun t448 => (if t448 = true then ((laws_toIntS.f k l2).bind fun t449 => ((laws_eqIntS.f k t435 t449).bind fun t452 => (if t452 = true then (some true) else (some false)))) else (some false)))) else (some false)))) else (some false))))))) = some r := H
 have A18 := aM A180
 clear A180
 replace H := Option.bind_eq_some_iff.mp H
 obtain ⟨t425, A190, H⟩ := H
 replace H : ((laws_toFloor.f k a0_0 a0_1 l0_2).bind fun bt426 => ((laws_toRobotS.f k l1).bind fun t432 => ((laws_toIntS.f k l2).bind fun t435 => ((impl_Clash.f k bt426.1 bt426.2.1 bt426.2.2 t432 t435).bind fun t438 => (if t438 = t425 then ((laws_toFloor.f k a0_0 a0_1 l0_2).bind fun bt439 => ((laws_eqFloor.f k bt426.1 bt426.2.1 bt426.2.2 bt439.1 bt439.2.1 bt439.2.2).bind fun t444 => (if t444 = true then ((laws_toRobotS.f k l1).bind fun t445 => ((laws_eqRobotS.f k t432 t445).bind fun t448 => (if t448 = true then ((laws_toIntS.f k l2).bind fun t449 => ((laws_eqIntS.f k t435 t449).bind fun t452 => (if t452 = true then (some true) else (some false)))) else (some false)))) else (some false)))) else (some false)))))) = some r := H
 have A19 := aM A190
 clear A190
 replace H := Option.bind_eq_some_iff.mp H
 obtain ⟨⟨t426, t427, t428⟩, A200, H⟩ := H
 replace H : ((laws_toRobotS.f k l1).bind fun t432 => ((laws_toIntS.f k l2).bind fun t435 => ((impl_Clash.f k t426 t427 t428 t432 t435).bind fun t438 => (if t438 = t425 then ((laws_toFloor.f k a0_0 a0_1 l0_2).bind fun bt439 => ((laws_eqFloor.f k t426 t427 t428 bt439.1 bt439.2.1 bt439.2.2).bind fun t444 => (if t444 = true then ((laws_toRobotS.f k l1).bind fun t445 => ((laws_eqRobotS.f k t432 t445).bind fun t448 => (if t448 = true then ((laws_toIntS.f k l2).bind fun t449 => ((laws_eqIntS.f k t435 t449).bind fun t452 => (if t452 = true then (some true) else (some false)))) else (some false)))) else (some false)))) else (some false))))) = some r := H
 have A20 := aM A200
 clear A200
 replace H := Option.bind_eq_some_iff.mp H
 obtain ⟨t432, A210, H⟩ := H
 replace H : ((laws_toIntS.f k l2).bind fun t435 => ((impl_Clash.f k t426 t427 t428 t432 t435).bind fun t438 => (if t438 = t425 then ((laws_toFloor.f k a0_0 a0_1 l0_2).bind fun bt439 => ((laws_eqFloor.f k t426 t427 t428 bt439.1 bt439.2.1 bt439.2.2).bind fun t444 => (if t444 = true then ((laws_toRobotS.f k l1).bind fun t445 => ((laws_eqRobotS.f k t432 t445).bind fun t448 => (if t448 = true then ((laws_toIntS.f k l2).bind fun t449 => ((laws_eqIntS.f k t435 t449).bind fun t452 => (if t452 = true then (some true) else (some false)))) else (some false)))) else (some false)))) else (some false)))) = some r := H
 have A21 := aM A210
 clear A210
 replace H := Option.bind_eq_some_iff.mp H
 obtain ⟨t435, A220, H⟩ := H
 replace H : ((impl_Clash.f k t426 t427 t428 t432 t435).bind fun t438 => (if t438 = t425 then ((laws_toFloor.f k a0_0 a0_1 l0_2).bind fun bt439 => ((laws_eqFloor.f k t426 t427 t428 bt439.1 bt439.2.1 bt439.2.2).bind fun t444 => (if t444 = true then ((laws_toRobotS.f k l1).bind fun t445 => ((laws_eqRobotS.f k t432 t445).bind fun t448 => (if t448 = true then ((laws_toIntS.f k l2).bind fun t449 => ((laws_eqIntS.f k t435 t449).bind fun t452 => (if t452 = true then (some true) else (some false)))) else (some false)))) else (some false)))) else (some false))) = some r := H
 have A22 := aM A220
 clear A220
 replace H := Option.bind_eq_some_iff.mp H
 obtain ⟨t438, A230, H⟩ := H
 replace H : (if t438 = t425 then ((laws_toFloor.f k a0_0 a0_1 l0_2).bind fun bt439 => ((laws_eqFloor.f k t426 t427 t428 bt439.1 bt439.2.1 bt439.2.2).bind fun t444 => (if t444 = true then ((laws_toRobotS.f k l1).bind fun t445 => ((laws_eqRobotS.f k t432 t445).bind fun t448 => (if t448 = true then ((laws_toIntS.f k l2).bind fun t449 => ((laws_eqIntS.f k t435 t449).bind fun t452 => (if t452 = true then (some true) else (some false)))) else (some false)))) else (some false)))) else (some false)) = some r := H
 have A23 := aM A230
 clear A230
 by_cases c24 : t438 = t425
 {
 rw [if_pos c24] at H
 have c24b0 := beq_iff_eq.mpr c24
 have c24b1 := bne_eq_false_iff_eq.mpr c24
 clear c24
 replace H := Option.bind_eq_some_iff.mp H
 obtain ⟨⟨t439, t440, t441⟩, A250, H⟩ := H
 replace H : ((laws_eqFloor.f k t426 t427 t428 t439 t440 t441).bind fun t444 => (if t444 = true then ((laws_toRobotS.f k l1).bind fun t445 => ((laws_eqRobotS.f k t432 t445).bind fun t448 => (if t448 = true then ((laws_toIntS.f k l2).bind fun t449 => ((laws_eqIntS.f k t435 t449).bind fun t452 => (if t452 = true then (some true) else (some false)))) else (some false)))) else (some false))) = some r := H
 have A25 := aM A250
 clear A250
 replace H := Option.bind_eq_some_iff.mp H
 obtain ⟨t444, A260, H⟩ := H
 replace H : (if t444 = true then ((laws_toRobotS.f k l1).bind fun t445 => ((laws_eqRobotS.f k t432 t445).bind fun t448 => (if t448 = true then ((laws_toIntS.f k l2).bind fun t449 => ((laws_eqIntS.f k t435 t449).bind fun t452 => (if t452 = true then (some true) else (some false)))) else (some false)))) else (some false)) = some r := H
 have A26 := aM A260
 clear A260
 by_cases c27 : t444 = true
 {
 subst c27
 rw [if_pos rfl] at H
 replace H := Option.bind_eq_some_iff.mp H
 obtain ⟨t445, A280, H⟩ := H
 replace H : ((laws_eqRobotS.f k t432 t445).bind fun t448 => (if t448 = true then ((laws_toIntS.f k l2).bind fun t449 => ((laws_eqIntS.f k t435 t449).bind fun t452 => (if t452 = true then (some true) else (some false)))) else (some false))) = some r := H
 have A28 := aM A280
 clear A280
 replace H := Option.bind_eq_some_iff.mp H
 obtain ⟨t448, A290, H⟩ := H
 replace H : (if t448 = true then ((laws_toIntS.f k l2).bind fun t449 => ((laws_eqIntS.f k t435 t449).bind fun t452 => (if t452 = true then (some true) else (some false)))) else (some false)) = some r := H
 have A29 := aM A290
 clear A290
 by_cases c30 : t448 = true
 {
 subst c30
 rw [if_pos rfl] at H
 replace H := Option.bind_eq_some_iff.mp H
 obtain ⟨t449, A310, H⟩ := H
 replace H : ((laws_eqIntS.f k t435 t449).bind fun t452 => (if t452 = true then (some true) else (some false))) = some r := H
 have A31 := aM A310
 clear A310
 replace H := Option.bind_eq_some_iff.mp H
 obtain ⟨t452, A320, H⟩ := H
 replace H : (if t452 = true then (some true) else (some false)) = some r := H
 have A32 := aM A320
 clear A320
 by_cases c33 : t452 = true
 {
 subst c33
 rw [if_pos rfl] at H
 obtain rfl := Option.some.inj H
 simp only [Option.some.injEq, Prod.mk.injEq] at H
 obtain ⟨rfl⟩ := H
 go_enter Try.func7, Try.ntmps7
 try go_wp2_with (first | ((with_reducible refine gate_dst (N := 3) rfl ?_); refine bx_ 3 #[.int .i64 a0_0, .int .i64 a0_1, .slice A0_2 l0_2.length c0_2] 39 ?_; intro gb411 hg w34 hbox hb; have BK411 := aM (hbox); have GW411 := aM (bz_ w hg qz1); have GE411 := GW411; replace HB := bS_ hb; clear hb hbox hg; obtain ⟨hcz35_0, hcz35_1, hcz35_2, hfz35_0, hfz35_1, hfz35_2⟩ := b6_ BK411.out) | ((with_reducible refine gate_callee (f := 25) rfl ?_); refine goesL_ (some 18) rfl rfl Try.func25 (by kernel_rfl) rfl #[.agg #[.int .i64 a0_0, .int .i64 a0_1, .slice A0_2 l0_2.length c0_2], .int .i64 1048576] rfl qz2 ?_; (with_reducible refine (laws_szFloor.calls a0_0 a0_1 _ _ l0_2 1048576 t412 _ ?side1 ?side2 A6.out).mono ?_); (case side1 => exact qz3); (case side2 => exact qz23); rintro e w36 ⟨rfl, hb⟩; refine ⟨_, rfl, ?_⟩; replace BK411 := bB_ BK411 hb; replace HB := bS_ hb; (try clear hb)) | ((with_reducible refine gate_callee (f := 14) rfl ?_); refine goesL_ (some 23) rfl rfl Try.func14 (by kernel_rfl) rfl #[.slice A1 l1.length c1, .int .i64 t412] rfl qz2 ?_; (with_reducible refine (laws_szRobotS.calls _ _ l1 t412 t413 _ ?side1 ?side2 A11.out).mono ?_); (case side1 => exact qz5); (case side2 => exact HC1.out); rintro e w' ⟨rfl, ⟨nd, rfl⟩⟩; refine ⟨_, rfl, ?_⟩; (try (rw [drewN_self w36]; generalize hq_ : World.drewN w36 _ = w36; replace BK411 : Aside0 (w36.heap[gb411]? = some (.cells #[.int .i64 a0_0, .int .i64 a0_1, .slice A0_2 l0_2.length c0_2] 39 (0, 0))) := ⟨by rw [← hq_]; exact (bk_ BK411.out)⟩; replace HB : Aside0 (Below w.heap.size w w36) := ⟨by rw [← hq_]; exact qz1⟩; clear hq_)); obtain ⟨hcz37_0, hcz37_1, hcz37_2, hfz37_0, hfz37_1, hfz37_2⟩ := b6_ BK411.out) | ((with_reducible refine gate_callee (f := 27) rfl ?_); refine goesL_ (some 27) rfl rfl Try.func27 (by kernel_rfl) rfl #[.agg #[.int .i64 a0_0, .int .i64 a0_1, .slice A0_2 l0_2.length c0_2]] rfl qz2 ?_; (with_reducible refine (laws_toFloor.calls k a0_0 a0_1 _ _ l0_2 t414 t415 t416 _ ?side1 ?side2 A16.out).mono ?_); (case side1 => exact qz3); (case side2 => exact qz23); rintro e w38 ⟨v417, rfl, ho0, hb⟩; refine ⟨_, rfl, ?_⟩; have HO418 := aM (Kd.R_lower ho0 (below_size qz1)); replace BK411 := bB_ BK411 hb; replace HB := bS_ hb; (try clear hb ho0)) | ((with_reducible refine gate_callee (f := 16) rfl ?_); refine goesL_ (some 29) rfl rfl Try.func16 (by kernel_rfl) rfl #[.slice A1 l1.length c1] rfl qz2 ?_; (with_reducible refine (laws_toRobotS.calls k _ _ l1 t419 _ ?side1 ?side2 A17.out).mono ?_); (case side1 => exact qz5); (case side2 => exact HC1.out); rintro e w39 ⟨v420, rfl, ho0, hb⟩; refine ⟨_, rfl, ?_⟩; replace HO418 := aM (Kd.R_below (rr_ HO418.out) hb); have HO421 := aM (Kd.R_lower ho0 (below_size qz1)); replace BK411 := bB_ BK411 hb; replace HB := bS_ hb; (try clear hb ho0)) | ((with_reducible refine gate_callee (f := 38) rfl ?_); refine goesL_ (some 31) rfl rfl Try.func38 (by kernel_rfl) rfl #[.slice A2 l2.length c2] rfl qz2 ?_; (with_reducible refine (laws_toIntS.calls k _ _ l2 t422 _ ?side1 ?side2 A18.out).mono ?_); (case side1 => exact qz8); (case side2 => exact HC2.out); rintro e w40 ⟨v423, rfl, ho0, hb⟩; refine ⟨_, rfl, ?_⟩; replace HO421 := aM (Kd.R_below (rr_ HO421.out) hb); have HO424 := aM (Kd.R_lower (Kd.R_new' ho0 (Kd.R_lt (rr_ HO418.out))) (below_size qz1)); replace HO418 := aM (Kd.R_elder' (rr_ HO418.out) (Kd.R_base ho0) hb); replace BK411 := bB_ BK411 hb; replace HB := bS_ hb; (try clear hb ho0); obtain ⟨Ao41, co41, eo41⟩ := Kd.R_slice HO418.out; subst eo41; obtain ⟨Ao42, co42, eo42⟩ := Kd.R_slice HO421.out; subst eo42; obtain ⟨Ao43, co43, eo43⟩ := Kd.R_slice HO424.out; subst eo43) | ((with_reducible refine gate_callee (f := 37) rfl ?_); refine goesL_ (some 32) rfl rfl Try.func37 (by kernel_rfl) rfl #[.agg #[.int .i64 t414, .int .i64 t415, .slice Ao41 t416.length co41], .slice Ao42 t419.length co42, .slice Ao43 t422.length co43] rfl qz2 ?_; (with_reducible refine (spec_Clash.calls k t414 t415 _ _ t416 _ _ t419 _ _ t422 t425 _ ?side1 ?side2 ?side3 ?side4 ?side5 ?side6 A19.out).mono ?_); (case side1 => repeat (first | exact (Kd.R_reads' HO418.out).2.2 | (with_reducible refine Kd.C_alloc ?_ _) | (with_reducible refine Kd.C_drewN ?_ _) | (with_reducible refine Kd.C_drew ?_))); (case side2 => exact (Kd.R_reads' HO418.out).2.1); (case side3 => repeat (first | exact (Kd.R_reads' HO421.out).2.2 | (with_reducible refine Kd.C_alloc ?_ _) | (with_reducible refine Kd.C_drewN ?_ _) | (with_reducible refine Kd.C_drew ?_))); (case side4 => exact (Kd.R_reads' HO421.out).2.1); (case side5 => repeat (first | exact (Kd.R_reads' HO424.out).2.2 | (with_reducible refine Kd.C_alloc ?_ _) | (with_reducible refine Kd.C_drewN ?_ _) | (with_reducible refine Kd.C_drew ?_))); (case side6 => exact (Kd.R_reads' HO424.out).2.1); rintro e w44 ⟨rfl, hb⟩; refine ⟨_, rfl, ?_⟩; replace HO418 := aM (Kd.R_below (rr_ HO418.out) hb); replace HO421 := aM (Kd.R_below (rr_ HO421.out) hb); replace HO424 := aM (Kd.R_below (rr_ HO424.out) hb); replace BK411 := bB_ BK411 hb; replace HB := bS_ hb; (try clear hb); obtain ⟨hcz45_0, hcz45_1, hcz45_2, hfz45_0, hfz45_1, hfz45_2⟩ := b6_ BK411.out) | ((with_reducible refine gate_callee (f := 27) rfl ?_); refine goesL_ (some 34) rfl rfl Try.func27 (by kernel_rfl) rfl #[.agg #[.int .i64 a0_0, .int .i64 a0_1, .slice A0_2 l0_2.length c0_2]] rfl qz2 ?_; (with_reducible refine (laws_toFloor.calls k a0_0 a0_1 _ _ l0_2 t426 t427 t428 _ ?side1 ?side2 A20.out).mono ?_); (case side1 => exact qz3); (case side2 => exact qz23); rintro e w46 ⟨v429, rfl, ho0, hb⟩; refine ⟨_, rfl, ?_⟩; replace HO421 := aM (Kd.R_below (rr_ HO421.out) hb); have HO430 := aM (Kd.R_lower (Kd.R_new' (Kd.R_new' ho0 (Kd.R_lt (rr_ HO418.out))) (Kd.R_lt (rr_ HO424.out))) (below_size qz1)); replace HO418 := aM (Kd.R_elder' (rr_ HO418.out) (Kd.R_base ho0) hb); replace HO424 := aM (Kd.R_elder' (rr_ HO424.out) (Kd.R_base ho0) hb); replace BK411 := bB_ BK411 hb; replace HB := bS_ hb; (try clear hb ho0)) | ((with_reducible refine gate_dst (N := 9) rfl ?_); refine bx_ 9 #[.int .i64 0, .int .i64 0, .slice none 0 0] 43 ?_; intro gb431 hg w47 hbox hb; replace HO418 := aM (Kd.R_below (rr_ HO418.out) hb); replace HO421 := aM (Kd.R_below (rr_ HO421.out) hb); replace HO424 := aM (Kd.R_below (rr_ HO424.out) hb); replace HO430 := aM (Kd.R_below (rr_ HO430.out) hb); have BK431 := aM (hbox); have GW431 := aM (bz_ w hg qz1); have GE431 := GW431; replace HB := bS_ hb; obtain ⟨NB411_431, NB431_411⟩ := nb_ hg (bk_ BK411.out); replace BK411 := bB_ BK411 hb; clear hb hbox hg; have hnb48 := NB431_411.out; have hnc48 := NB411_431.out; obtain ⟨hcz49_0, hcz49_1, hcz49_2, hfz49_0, hfz49_1, hfz49_2⟩ := b6_ BK431.out; obtain ⟨Ao50, co50, eo50⟩ := Kd.R_slice HO430.out; subst eo50) | ((with_reducible refine gate_callee (f := 16) rfl ?_); refine goesL_ (some 36) rfl rfl Try.func16 (by kernel_rfl) rfl #[.slice A1 l1.length c1] rfl qz2 ?_; (with_reducible refine (laws_toRobotS.calls k _ _ l1 t432 _ ?side1 ?side2 A21.out).mono ?_); (case side1 => exact Kd.C_below HR1.out qz1); (case side2 => exact HC1.out); rintro e w51 ⟨v433, rfl, ho0, hb⟩; refine ⟨_, rfl, ?_⟩; replace HO418 := aM (Kd.R_below (by (with_reducible repeat (first | apply Kd.R_alloc | apply Kd.R_drewN | apply Kd.R_drew)); exact (Kd.R_mono (Kd.R_far (p := ⟨gb431, 2, none⟩) (Kd.R_far (p := ⟨gb431, 1, none⟩) (Kd.R_far (p := ⟨gb431, 0, none⟩) (Kd.R_types HO418.out BK431.out (by decide)) (fun _ hk => hk.2) (.int .i64 t426)) (fun _ hk => hk.2) (.int .i64 t427)) (fun _ hk => hk.2) (.slice Ao50 t428.length co50)) (fun _ h_ => h_.1))) hb); replace HO424 := aM (Kd.R_below (by (with_reducible repeat (first | apply Kd.R_alloc | apply Kd.R_drewN | apply Kd.R_drew)); exact (Kd.R_mono (Kd.R_far (p := ⟨gb431, 2, none⟩) (Kd.R_far (p := ⟨gb431, 1, none⟩) (Kd.R_far (p := ⟨gb431, 0, none⟩) (Kd.R_types HO424.out BK431.out (by decide)) (fun _ hk => hk.2) (.int .i64 t426)) (fun _ hk => hk.2) (.int .i64 t427)) (fun _ hk => hk.2) (.slice Ao50 t428.length co50)) (fun _ h_ => h_.1))) hb); replace HO430 := aM (Kd.R_below (by (with_reducible repeat (first | apply Kd.R_alloc | apply Kd.R_drewN | apply Kd.R_drew)); exact (Kd.R_mono (Kd.R_far (p := ⟨gb431, 2, none⟩) (Kd.R_far (p := ⟨gb431, 1, none⟩) (Kd.R_far (p := ⟨gb431, 0, none⟩) (Kd.R_types HO430.out BK431.out (by decide)) (fun _ hk => hk.2) (.int .i64 t426)) (fun _ hk => hk.2) (.int .i64 t427)) (fun _ hk => hk.2) (.slice Ao50 t428.length co50)) (fun _ h_ => h_.1))) hb); have HO434 := aM (Kd.R_lower (Kd.R_new' ho0 (Kd.R_lt (by (with_reducible repeat (first | apply Kd.R_alloc | apply Kd.R_drewN | apply Kd.R_drew)); exact (Kd.R_mono (Kd.R_far (p := ⟨gb431, 2, none⟩) (Kd.R_far (p := ⟨gb431, 1, none⟩) (Kd.R_far (p := ⟨gb431, 0, none⟩) (Kd.R_types HO421.out BK431.out (by decide)) (fun _ hk => hk.2) (.int .i64 t426)) (fun _ hk => hk.2) (.int .i64 t427)) (fun _ hk => hk.2) (.slice Ao50 t428.length co50)) (fun _ h_ => h_.1))))) (below_size qz1)); replace HO421 := aM (Kd.R_elder' (by (with_reducible repeat (first | apply Kd.R_alloc | apply Kd.R_drewN | apply Kd.R_drew)); exact (Kd.R_mono (Kd.R_far (p := ⟨gb431, 2, none⟩) (Kd.R_far (p := ⟨gb431, 1, none⟩) (Kd.R_far (p := ⟨gb431, 0, none⟩) (Kd.R_types HO421.out BK431.out (by decide)) (fun _ hk => hk.2) (.int .i64 t426)) (fun _ hk => hk.2) (.int .i64 t427)) (fun _ hk => hk.2) (.slice Ao50 t428.length co50)) (fun _ h_ => h_.1))) (Kd.R_base ho0) hb); replace BK411 := aM (blk_below (g := gb411) (o := .cells #[.int .i64 a0_0, .int .i64 a0_1, .slice A0_2 l0_2.length c0_2] 39 (0, 0)) (bk2_ BK411.out) hb); replace BK431 := aM (blk_below (g := gb431) (o := .cells #[.int .i64 t426, .int .i64 t427, .slice Ao50 t428.length co50] 43 (0, 0)) (by (with_reducible repeat (first | refine blk_drewN ?_ _ | refine blk_drew ?_ | refine blk_alloc ?_ _)); refine blk_put (cs := #[.int .i64 t426, .int .i64 t427, .slice none 0 0]) ?_ 2 _ rfl; (with_reducible repeat (first | refine blk_drewN ?_ _ | refine blk_drew ?_ | refine blk_alloc ?_ _)); refine blk_put (cs := #[.int .i64 t426, .int .i64 0, .slice none 0 0]) ?_ 1 _ rfl; (with_reducible repeat (first | refine blk_drewN ?_ _ | refine blk_drew ?_ | refine blk_alloc ?_ _)); refine blk_put (cs := #[.int .i64 0, .int .i64 0, .slice none 0 0]) ?_ 0 _ rfl; exact bk_ BK431.out) hb); replace HB := bS_ hb; (try clear hb ho0)) | ((with_reducible refine gate_callee (f := 38) rfl ?_); refine goesL_ (some 38) rfl rfl Try.func38 (by kernel_rfl) rfl #[.slice A2 l2.length c2] rfl qz2 ?_; (with_reducible refine (laws_toIntS.calls k _ _ l2 t435 _ ?side1 ?side2 A22.out).mono ?_); (case side1 => exact qz8); (case side2 => exact HC2.out); rintro e w52 ⟨v436, rfl, ho0, hb⟩; refine ⟨_, rfl, ?_⟩; replace HO421 := aM (Kd.R_below (rr_ HO421.out) hb); replace HO434 := aM (Kd.R_below (rr_ HO434.out) hb); have HO437 := aM (Kd.R_lower (Kd.R_new' (Kd.R_new' (Kd.R_new' ho0 (Kd.R_lt (rr_ HO418.out))) (Kd.R_lt (rr_ HO424.out))) (Kd.R_lt (rr_ HO430.out))) (below_size qz1)); replace HO418 := aM (Kd.R_elder' (rr_ HO418.out) (Kd.R_base ho0) hb); replace HO424 := aM (Kd.R_elder' (rr_ HO424.out) (Kd.R_base ho0) hb); replace HO430 := aM (Kd.R_elder' (rr_ HO430.out) (Kd.R_base ho0) hb); replace BK411 := bB_ BK411 hb; replace BK431 := bB_ BK431 hb; replace HB := bS_ hb; (try clear hb ho0); obtain ⟨hcz53_0, hcz53_1, hcz53_2, hfz53_0, hfz53_1, hfz53_2⟩ := b6_ BK431.out; obtain ⟨Ao54, co54, eo54⟩ := Kd.R_slice HO434.out; subst eo54; obtain ⟨Ao55, co55, eo55⟩ := Kd.R_slice HO437.out; subst eo55) | ((with_reducible refine gate_callee (f := 39) rfl ?_); refine goesL_ (some 42) rfl rfl Try.func39 (by kernel_rfl) rfl #[.agg #[.int .i64 t426, .int .i64 t427, .slice Ao50 t428.length co50], .slice Ao54 t432.length co54, .slice Ao55 t435.length co55] rfl qz2 ?_; (with_reducible refine (impl_Clash.calls k t426 t427 _ _ t428 _ _ t432 _ _ t435 t438 _ ?side1 ?side2 ?side3 ?side4 ?side5 ?side6 A23.out).mono ?_); (case side1 => repeat (first | exact (Kd.R_reads' HO430.out).2.2 | (with_reducible refine Kd.C_alloc ?_ _) | (with_reducible refine Kd.C_drewN ?_ _) | (with_reducible refine Kd.C_drew ?_))); (case side2 => exact (Kd.R_reads' HO430.out).2.1); (case side3 => repeat (first | exact (Kd.R_reads' HO434.out).2.2 | (with_reducible refine Kd.C_alloc ?_ _) | (with_reducible refine Kd.C_drewN ?_ _) | (with_reducible refine Kd.C_drew ?_))); (case side4 => exact (Kd.R_reads' HO434.out).2.1); (case side5 => repeat (first | exact (Kd.R_reads' HO437.out).2.2 | (with_reducible refine Kd.C_alloc ?_ _) | (with_reducible refine Kd.C_drewN ?_ _) | (with_reducible refine Kd.C_drew ?_))); (case side6 => exact (Kd.R_reads' HO437.out).2.1); rintro e w56 ⟨rfl, hb⟩; refine ⟨_, rfl, ?_⟩; replace HO418 := aM (Kd.R_below (rr_ HO418.out) hb); replace HO421 := aM (Kd.R_below (rr_ HO421.out) hb); replace HO424 := aM (Kd.R_below (rr_ HO424.out) hb); replace HO430 := aM (Kd.R_below (rr_ HO430.out) hb); replace HO434 := aM (Kd.R_below (rr_ HO434.out) hb); replace HO437 := aM (Kd.R_below (rr_ HO437.out) hb); replace BK411 := bB_ BK411 hb; replace BK431 := bB_ BK431 hb; replace HB := bS_ hb; (try clear hb)))
 replace HO418 := aM (Kd.R_drew HO418.out)
 replace HO421 := aM (Kd.R_drew HO421.out)
 replace HO424 := aM (Kd.R_drew HO424.out)
 replace HO430 := aM (Kd.R_drew HO430.out)
 replace HO434 := aM (Kd.R_drew HO434.out)
 replace HO437 := aM (Kd.R_drew HO437.out)
 replace BK411 := aM (blk_drew BK411.out)
 replace BK431 := aM (blk_drew BK431.out)
 replace HB := aM (below_drew1 HB.out)
 refine start_ (n := 5) (S := fun w' => w'.cell? ⟨gb431, 0, none⟩ = some (.int .i64 t426) ∧ w'.cell? ⟨gb431, 1, none⟩ = some (.int .i64 t427) ∧ w'.cell? ⟨gb431, 2, none⟩ = some (.slice Ao50 t428.length co50) ∧ w'.cell? ⟨gb411, 0, none⟩ = some (.int .i64 a0_0) ∧ w'.cell? ⟨gb411, 1, none⟩ = some (.int .i64 a0_1) ∧ w'.cell? ⟨gb411, 2, none⟩ = some (.slice A0_2 l0_2.length c0_2)) (ds := []) #[false, false, false, false, false] (by kernel_rfl) rfl rfl ⟨(blk_cell BK431.out 0).trans rfl, (blk_cell BK431.out 1).trans rfl, (blk_cell BK431.out 2).trans rfl, (blk_cell BK411.out 0).trans rfl, (blk_cell BK411.out 1).trans rfl, (blk_cell BK411.out 2).trans rfl⟩ (fun hHeld => ?_)
 generalize w56.drew = w57 at HO418 HO421 HO424 HO430 HO434 HO437 BK411 BK431 HB hHeld ⊢
 refine take_ (i := 0) (N := some 46) (v := ?_) (a' := ?_) #[true, false, false, false, false] rfl rfl (by kernel_rfl) qzd (Or.inl ⟨by rfl, ?_⟩) hHeld ?_ ?_
 rotate_left
 {
 rintro w' ⟨s0, s1, s2, s3, s4, s5⟩
 go_simp
 with_reducible rfl
 }
 rotate_left
 {
 simp only [qzs]
 rfl
 }
 refine take_ (i := 1) (N := some 47) (v := ?_) (a' := ?_) #[true, true, false, false, false] rfl rfl (by kernel_rfl) qzd (Or.inl ⟨by rfl, ?_⟩) hHeld ?_ ?_
 rotate_left
 {
 rintro w' ⟨s0, s1, s2, s3, s4, s5⟩
 go_simp
 with_reducible rfl
 }
 rotate_left
 {
 simp only [qzs]
 rfl
 }
 refine one_ (i := 2) (N := some 48) #[true, true, true, false, false] rfl rfl (by kernel_rfl) (by decide) (fun K hK => ?_)
 refine goes_ Try.func27 (by kernel_rfl) rfl #[.agg #[.int .i64 a0_0, .int .i64 a0_1, .slice A0_2 l0_2.length c0_2]] (by rfl) rfl rfl qz2 ?_
 with_reducible refine (laws_toFloor.calls k a0_0 a0_1 _ _ l0_2 t439 t440 t441 _ ?side1 ?side2 A25.out).mono ?_
 (case side1 => exact qz3)
 (case side2 => exact qz23)
 rintro e w58 ⟨v442, rfl, ho0, hb⟩
 refine ⟨_, rfl, ?_⟩
 replace HO421 := aM (Kd.R_below (rr_ HO421.out) hb)
 replace HO434 := aM (Kd.R_below (rr_ HO434.out) hb)
 have HO443 := aM (Kd.R_lower (Kd.R_new' (Kd.R_new' (Kd.R_new' (Kd.R_new' ho0 (Kd.R_lt (rr_ HO418.out))) (Kd.R_lt (rr_ HO424.out))) (Kd.R_lt (rr_ HO430.out))) (Kd.R_lt (rr_ HO437.out))) (below_size qz1))
 replace HO418 := aM (Kd.R_elder' (rr_ HO418.out) (Kd.R_base ho0) hb)
 replace HO424 := aM (Kd.R_elder' (rr_ HO424.out) (Kd.R_base ho0) hb)
 replace HO430 := aM (Kd.R_elder' (rr_ HO430.out) (Kd.R_base ho0) hb)
 replace HO437 := aM (Kd.R_elder' (rr_ HO437.out) (Kd.R_base ho0) hb)
 replace BK411 := bB_ BK411 hb
 replace BK431 := bB_ BK431 hb
 replace HB := bS_ hb
 (try clear hb)
 (try clear hb2)
 (try clear hk)
 (try clear hi)
 (try clear ho0)
 obtain ⟨Ao59, co59, eo59⟩ := Kd.R_slice HO443.out
 (first | subst eo59 | (injection eo59 with f1_ f2_ f3_; have f4_ := f1_.symm; have f5_ := f3_.symm; clear f1_ f2_ f3_; subst f4_; subst f5_))
 refine hK.out _ _ ⟨(blk_cell BK431.out 0).trans rfl, (blk_cell BK431.out 1).trans rfl, (blk_cell BK431.out 2).trans rfl, (blk_cell BK411.out 0).trans rfl, (blk_cell BK411.out 1).trans rfl, (blk_cell BK411.out 2).trans rfl⟩ (fun hHeld => ?_)
 clear hK K
 refine nm_ 48 ?_
 refine one_ (i := 3) (N := some 49) #[true, true, true, true, false] rfl rfl (by kernel_rfl) (by decide) (fun K hK => ?_)
 refine goes_ Try.func30 (by kernel_rfl) rfl #[.agg #[.int .i64 t426, .int .i64 t427, .slice Ao50 t428.length co50], .agg #[.int .i64 t439, .int .i64 t440, .slice Ao59 t441.length co59]] (by rfl) rfl rfl qz2 ?_
 with_reducible refine (laws_eqFloor.calls k t426 t427 _ _ t428 t439 t440 _ _ t441 true _ ?side1 ?side2 ?side3 ?side4 A26.out).mono ?_
 (case side1 => repeat (first | exact (Kd.R_reads' HO430.out).2.2 | (with_reducible refine Kd.C_alloc ?_ _) | (with_reducible refine Kd.C_drewN ?_ _) | (with_reducible refine Kd.C_drew ?_)))
 (case side2 => exact (Kd.R_reads' HO430.out).2.1)
 (case side3 => repeat (first | exact (Kd.R_reads' HO443.out).2.2 | (with_reducible refine Kd.C_alloc ?_ _) | (with_reducible refine Kd.C_drewN ?_ _) | (with_reducible refine Kd.C_drew ?_)))
 (case side4 => exact (Kd.R_reads' HO443.out).2.1)
 rintro e w60 ⟨rfl, hb⟩
 refine ⟨_, rfl, ?_⟩
 replace HO418 := aM (Kd.R_below (rr_ HO418.out) hb)
 replace HO421 := aM (Kd.R_below (rr_ HO421.out) hb)
 replace HO424 := aM (Kd.R_below (rr_ HO424.out) hb)
 replace HO430 := aM (Kd.R_below (rr_ HO430.out) hb)
 replace HO434 := aM (Kd.R_below (rr_ HO434.out) hb)
 replace HO437 := aM (Kd.R_below (rr_ HO437.out) hb)
 replace HO443 := aM (Kd.R_below (rr_ HO443.out) hb)
 replace BK411 := bB_ BK411 hb
 replace BK431 := bB_ BK431 hb
 replace HB := bS_ hb
 (try clear hb)
 (try clear hb2)
 (try clear hk)
 (try clear hi)
 refine hK.out _ _ ⟨(blk_cell BK431.out 0).trans rfl, (blk_cell BK431.out 1).trans rfl, (blk_cell BK431.out 2).trans rfl, (blk_cell BK411.out 0).trans rfl, (blk_cell BK411.out 1).trans rfl, (blk_cell BK411.out 2).trans rfl⟩ (fun hHeld => ?_)
 clear hK K
 refine nm_ 49 ?_
 refine pure_ (i := 4) (N := some 50) (v := ?_) (a' := ?_) #[true, true, true, true, true] rfl rfl (by kernel_rfl) qzd (Or.inl ⟨by rfl, ?_⟩) ?_ ?_
 rotate_left
 {
 intro w'
 go_simp
 with_reducible rfl
 }
 rotate_left
 {
 simp only [qzs]
 rfl
 }
 refine done_ (by kernel_rfl) ?_
 try go_wp2_with (first | ((with_reducible refine gate_callee (f := 16) rfl ?_); refine goesL_ (some 53) rfl rfl Try.func16 (by kernel_rfl) rfl #[.slice A1 l1.length c1] rfl qz2 ?_; (with_reducible refine (laws_toRobotS.calls k _ _ l1 t445 _ ?side1 ?side2 A28.out).mono ?_); (case side1 => exact qz5); (case side2 => exact HC1.out); rintro e w61 ⟨v446, rfl, ho0, hb⟩; refine ⟨_, rfl, ?_⟩; replace HO418 := aM (Kd.R_below (rr_ HO418.out) hb); replace HO424 := aM (Kd.R_below (rr_ HO424.out) hb); replace HO430 := aM (Kd.R_below (rr_ HO430.out) hb); replace HO437 := aM (Kd.R_below (rr_ HO437.out) hb); replace HO443 := aM (Kd.R_below (rr_ HO443.out) hb); have HO447 := aM (Kd.R_lower (Kd.R_new' (Kd.R_new' ho0 (Kd.R_lt (rr_ HO421.out))) (Kd.R_lt (rr_ HO434.out))) (below_size qz1)); replace HO421 := aM (Kd.R_elder' (rr_ HO421.out) (Kd.R_base ho0) hb); replace HO434 := aM (Kd.R_elder' (rr_ HO434.out) (Kd.R_base ho0) hb); replace BK411 := bB_ BK411 hb; replace BK431 := bB_ BK431 hb; replace HB := bS_ hb; (try clear hb ho0); obtain ⟨Ao62, co62, eo62⟩ := Kd.R_slice HO447.out; subst eo62) | ((with_reducible refine gate_callee (f := 19) rfl ?_); refine goesL_ (some 54) rfl rfl Try.func19 (by kernel_rfl) rfl #[.slice Ao54 t432.length co54, .slice Ao62 t445.length co62] rfl qz2 ?_; (with_reducible refine (laws_eqRobotS.calls k _ _ t432 _ _ t445 true _ ?side1 ?side2 ?side3 ?side4 A29.out).mono ?_); (case side1 => repeat (first | exact (Kd.R_reads' HO434.out).2.2 | (with_reducible refine Kd.C_alloc ?_ _) | (with_reducible refine Kd.C_drewN ?_ _) | (with_reducible refine Kd.C_drew ?_))); (case side2 => exact (Kd.R_reads' HO434.out).2.1); (case side3 => repeat (first | exact (Kd.R_reads' HO447.out).2.2 | (with_reducible refine Kd.C_alloc ?_ _) | (with_reducible refine Kd.C_drewN ?_ _) | (with_reducible refine Kd.C_drew ?_))); (case side4 => exact (Kd.R_reads' HO447.out).2.1); rintro e w63 ⟨rfl, hb⟩; refine ⟨_, rfl, ?_⟩; replace HO418 := aM (Kd.R_below (rr_ HO418.out) hb); replace HO421 := aM (Kd.R_below (rr_ HO421.out) hb); replace HO424 := aM (Kd.R_below (rr_ HO424.out) hb); replace HO430 := aM (Kd.R_below (rr_ HO430.out) hb); replace HO434 := aM (Kd.R_below (rr_ HO434.out) hb); replace HO437 := aM (Kd.R_below (rr_ HO437.out) hb); replace HO443 := aM (Kd.R_below (rr_ HO443.out) hb); replace HO447 := aM (Kd.R_below (rr_ HO447.out) hb); replace BK411 := bB_ BK411 hb; replace BK431 := bB_ BK431 hb; replace HB := bS_ hb; (try clear hb)) | ((with_reducible refine gate_callee (f := 38) rfl ?_); refine goesL_ (some 58) rfl rfl Try.func38 (by kernel_rfl) rfl #[.slice A2 l2.length c2] rfl qz2 ?_; (with_reducible refine (laws_toIntS.calls k _ _ l2 t449 _ ?side1 ?side2 A31.out).mono ?_); (case side1 => exact qz8); (case side2 => exact HC2.out); rintro e w64 ⟨v450, rfl, ho0, hb⟩; refine ⟨_, rfl, ?_⟩; replace HO421 := aM (Kd.R_below (rr_ HO421.out) hb); replace HO434 := aM (Kd.R_below (rr_ HO434.out) hb); replace HO447 := aM (Kd.R_below (rr_ HO447.out) hb); have HO451 := aM (Kd.R_lower (Kd.R_new' (Kd.R_new' (Kd.R_new' (Kd.R_new' (Kd.R_new' ho0 (Kd.R_lt (rr_ HO418.out))) (Kd.R_lt (rr_ HO424.out))) (Kd.R_lt (rr_ HO430.out))) (Kd.R_lt (rr_ HO437.out))) (Kd.R_lt (rr_ HO443.out))) (below_size qz1)); replace HO418 := aM (Kd.R_elder' (rr_ HO418.out) (Kd.R_base ho0) hb); replace HO424 := aM (Kd.R_elder' (rr_ HO424.out) (Kd.R_base ho0) hb); replace HO430 := aM (Kd.R_elder' (rr_ HO430.out) (Kd.R_base ho0) hb); replace HO437 := aM (Kd.R_elder' (rr_ HO437.out) (Kd.R_base ho0) hb); replace HO443 := aM (Kd.R_elder' (rr_ HO443.out) (Kd.R_base ho0) hb); replace BK411 := bB_ BK411 hb; replace BK431 := bB_ BK431 hb; replace HB := bS_ hb; (try clear hb ho0); obtain ⟨Ao65, co65, eo65⟩ := Kd.R_slice HO451.out; subst eo65) | ((with_reducible refine gate_callee (f := 18) rfl ?_); refine goesL_ (some 59) rfl rfl Try.func18 (by kernel_rfl) rfl #[.slice Ao55 t435.length co55, .slice Ao65 t449.length co65] rfl qz2 ?_; (with_reducible refine (laws_eqIntS.calls k _ _ t435 _ _ t449 true _ ?side1 ?side2 ?side3 ?side4 A32.out).mono ?_); (case side1 => repeat (first | exact (Kd.R_reads' HO437.out).2.2 | (with_reducible refine Kd.C_alloc ?_ _) | (with_reducible refine Kd.C_drewN ?_ _) | (with_reducible refine Kd.C_drew ?_))); (case side2 => exact (Kd.R_reads' HO437.out).2.1); (case side3 => repeat (first | exact (Kd.R_reads' HO451.out).2.2 | (with_reducible refine Kd.C_alloc ?_ _) | (with_reducible refine Kd.C_drewN ?_ _) | (with_reducible refine Kd.C_drew ?_))); (case side4 => exact (Kd.R_reads' HO451.out).2.1); rintro e w' ⟨rfl, ⟨nd, rfl⟩⟩; refine ⟨_, rfl, ?_⟩))
 go_ret
 exact ⟨qzw, qz1⟩
 }
 {
 replace c33 := Bool.eq_false_iff.mpr c33
 subst c33
 rw [if_neg (show ¬ (false = true) by decide)] at H
 obtain rfl := Option.some.inj H
 exact absurd HTR_.out (by decide)
 }
 }
 {
 replace c30 := Bool.eq_false_iff.mpr c30
 subst c30
 rw [if_neg (show ¬ (false = true) by decide)] at H
 obtain rfl := Option.some.inj H
 exact absurd HTR_.out (by decide)
 }
 }
 {
 replace c27 := Bool.eq_false_iff.mpr c27
 subst c27
 rw [if_neg (show ¬ (false = true) by decide)] at H
 obtain rfl := Option.some.inj H
 exact absurd HTR_.out (by decide)
 }
 }
 {
 rw [if_neg c24] at H
 have c24b0 := beq_eq_false_iff_ne.mpr c24
 have c24b1 := bne_iff_ne.mpr c24
 obtain rfl := Option.some.inj H
 exact absurd HTR_.out (by decide)

 }
 }
 }
 }
end Go.Proofs.Ytankmdbbgepmbaa.PFnExactClash
