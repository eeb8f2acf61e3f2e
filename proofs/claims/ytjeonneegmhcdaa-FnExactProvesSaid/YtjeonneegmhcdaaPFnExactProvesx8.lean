-- Made by a program of this session out of the translation. Lean checks it.
import Derived.Test.YtjeonneegmhcdaaPFnExactProvesx0
import Derived.Test.YtjeonneegmhcdaaPFnExactProvesx1
import Derived.Test.YtjeonneegmhcdaaPFnExactProvesx4
import Derived.Test.YtjeonneegmhcdaaPFnExactProvesx7
namespace Go.Proofs.Ytjeonneegmhcdaa.PFnExactProves
open Go.RowKit Go.Proofs.YtjeonneegmhcdaaW.PrintWords Go.Proofs.YtjeonneegmhcdaaW.PrintLast Go.Proofs.YtjeonneegmhcdaaW.PrintMore
attribute [local go_sem] max2_int min2_int max_two min_two max_three min_three max_four min_four   -- for this text's walks alone
set_option linter.unusedVariables false
set_option linter.unusedSimpArgs false

/-! ### laws_FnExactProves: function 14 -/
def laws_FnExactProves.f (k : Nat) (l0 : List (List Int)) (l1 : List Int) (l2 : List Int) (l3 : List Int) : Option (Bool) := if (l1.length : Int) > 1048576 then (some true) else (if (l2.length : Int) > 1048576 then (some true) else (if (l3.length : Int) > 1048576 then (some true) else ((laws_szIntSS.f k l0 1048576).bind fun t196 => (if t196 < 0 then (some true) else ((laws_toIntSS.f k l0).bind fun t197 => ((laws_toIntS.f k l1).bind fun t200 => ((laws_toIntS.f k l2).bind fun t203 => ((laws_toIntS.f k l3).bind fun t206 => ((spec_Proves.f k t197 t200 t203 t206).bind fun t209 => ((laws_toIntSS.f k l0).bind fun t210 => ((laws_toIntS.f k l1).bind fun t213 => ((laws_toIntS.f k l2).bind fun t216 => ((laws_toIntS.f k l3).bind fun t219 => ((impl_Proves.f k t210 t213 t216 t219).bind fun t222 => (if (t222 != t209) = true then (some false) else ((laws_toIntSS.f k l0).bind fun t223 => ((laws_eqIntSS.f k t210 t223).bind fun t226 => (if t226 = true then ((laws_toIntS.f k l1).bind fun t227 => ((laws_eqIntS.f k t213 t227).bind fun t230 => (if t230 = true then ((laws_toIntS.f k l2).bind fun t231 => ((laws_eqIntS.f k t216 t231).bind fun t234 => (if t234 = true then ((laws_toIntS.f k l3).bind fun t235 => ((laws_eqIntS.f k t219 t235).bind fun t238 => (if t238 = true then (some true) else (some false)))) else (some false)))) else (some false)))) else (some false)))))))))))))))))))
theorem laws_FnExactProves.mono : ∀ a0 a1 a2 a3 k, LeO (laws_FnExactProves.f k a0 a1 a2 a3) (laws_FnExactProves.f (k + 1) a0 a1 a2 a3) := by
  intro a0 a1 a2 a3 k
  unfold laws_FnExactProves.f
  repeat' first
      | (with_reducible exact impl_Proves.mono _ _ _ _ _)
      | (with_reducible exact laws_eqIntS.mono _ _ _)
      | (with_reducible exact laws_eqIntSS.mono _ _ _)
      | (with_reducible exact laws_szIntSS.mono _ _ _)
      | (with_reducible exact laws_toIntS.mono _ _)
      | (with_reducible exact laws_toIntSS.mono _ _)
      | (with_reducible exact spec_Proves.mono _ _ _ _ _)
      | (with_reducible exact LeO.refl _)
      | (with_reducible exact LeO.none _)
      | (with_reducible refine LeO.ite ?_ ?_)
      | (with_reducible refine LeO.bind ?_ (fun _ => ?_))
      | exact impl_Proves.mono _ _ _ _ _
      | exact laws_eqIntS.mono _ _ _
      | exact laws_eqIntSS.mono _ _ _
      | exact laws_szIntSS.mono _ _ _
      | exact laws_toIntS.mono _ _
      | exact laws_toIntSS.mono _ _
      | exact spec_Proves.mono _ _ _ _ _
      | exact LeO.none _
      | refine LeO.ite ?_ ?_
      | refine LeO.bind ?_ (fun _ => ?_)
set_option maxHeartbeats 8000000 in
set_option maxRecDepth 100000 in
theorem laws_FnExactProves.calls (k : Nat) (A0 : Option Addr) (c0 : Nat) (l0 : List (List Int)) (A1 : Option Addr) (c1 : Nat) (l1 : List Int) (A2 : Option Addr) (c2 : Nat) (l2 : List Int) (A3 : Option Addr) (c3 : Nat) (l3 : List Int) (r : Bool) (w : World) (hr0 : Kd.C (Kd.slice 3 (Kd.int .i64)) w A0 l0.length l0) (hc0 : l0.length ≤ c0) (hr1 : Kd.C (Kd.int .i64) w A1 l1.length l1) (hc1 : l1.length ≤ c1) (hr2 : Kd.C (Kd.int .i64) w A2 l2.length l2) (hc2 : l2.length ≤ c2) (hr3 : Kd.C (Kd.int .i64) w A3 l3.length l3) (hc3 : l3.length ≤ c3) (hT : r = true) (h : laws_FnExactProves.f k l0 l1 l2 l3 = some r) :
    Calls Try.prog 14 #[.slice A0 l0.length c0, .slice A1 l1.length c1, .slice A2 l2.length c2, .slice A3 l3.length c3] w fun e w' => e = .returned (.bool r) ∧ Below w.heap.size w w' := by
  have HTR_ := Aside0.mk hT
  clear hT
  have HR0 := Aside0.mk hr0
  have HC0 := Aside0.mk hc0
  clear hr0 hc0
  have HR1 := Aside0.mk hr1
  have HC1 := Aside0.mk hc1
  clear hr1 hc1
  have HR2 := Aside0.mk hr2
  have HC2 := Aside0.mk hc2
  clear hr2 hc2
  have HR3 := Aside0.mk hr3
  have HC3 := Aside0.mk hc3
  clear hr3 hc3
  have HB := Aside0.mk (Below.refl w.heap.size w)
  have H : (if (l1.length : Int) > 1048576 then (some true) else (if (l2.length : Int) > 1048576 then (some true) else (if (l3.length : Int) > 1048576 then (some true) else ((laws_szIntSS.f k l0 1048576).bind fun t196 => (if t196 < 0 then (some true) else ((laws_toIntSS.f k l0).bind fun t197 => ((laws_toIntS.f k l1).bind fun t200 => ((laws_toIntS.f k l2).bind fun t203 => ((laws_toIntS.f k l3).bind fun t206 => ((spec_Proves.f k t197 t200 t203 t206).bind fun t209 => ((laws_toIntSS.f k l0).bind fun t210 => ((laws_toIntS.f k l1).bind fun t213 => ((laws_toIntS.f k l2).bind fun t216 => ((laws_toIntS.f k l3).bind fun t219 => ((impl_Proves.f k t210 t213 t216 t219).bind fun t222 => (if (t222 != t209) = true then (some false) else ((laws_toIntSS.f k l0).bind fun t223 => ((laws_eqIntSS.f k t210 t223).bind fun t226 => (if t226 = true then ((laws_toIntS.f k l1).bind fun t227 => ((laws_eqIntS.f k t213 t227).bind fun t230 => (if t230 = true then ((laws_toIntS.f k l2).bind fun t231 => ((laws_eqIntS.f k t216 t231).bind fun t234 => (if t234 = true then ((laws_toIntS.f k l3).bind fun t235 => ((laws_eqIntS.f k t219 t235).bind fun t238 => (if t238 = true then (some true) else (some false)))) else (some false)))) else (some false)))) else (some false)))))))))))))))))))) = some r := h
  clear h
  by_cases c5 : (l1.length : Int) > 1048576
  {
  rw [if_pos c5] at H
  have c5b0 : decide (1048576 < (l1.length : Int)) = true := decide_eq_true c5
  have c5b1 : decide (1048576 < l1.length) = true := decide_eq_true (by omega)
  clear c5
  obtain rfl := Option.some.inj H
  simp only [Option.some.injEq, Prod.mk.injEq] at H
  obtain ⟨rfl⟩ := H
  go_enter Try.func14, Try.ntmps14
  go_wp2
  go_ret
  exact ⟨by first | rfl | (simp [errW_none, errW_some] <;> rfl) | (simp [*, errW_none, errW_some] <;> rfl), by repeat (first | (with_reducible first | exact HB.out | apply below_alloc | apply pw_below_drewN | apply below_drew1) | exact HB.out)⟩
  }
  {
  rw [if_neg c5] at H
  have c5b0 : decide (1048576 < (l1.length : Int)) = false := decide_eq_false c5
  have c5b1 : decide (1048576 < l1.length) = false := decide_eq_false (by omega)
  clear c5
  by_cases c6 : (l2.length : Int) > 1048576
  {
  rw [if_pos c6] at H
  have c6b0 : decide (1048576 < (l2.length : Int)) = true := decide_eq_true c6
  have c6b1 : decide (1048576 < l2.length) = true := decide_eq_true (by omega)
  clear c6
  obtain rfl := Option.some.inj H
  simp only [Option.some.injEq, Prod.mk.injEq] at H
  obtain ⟨rfl⟩ := H
  go_enter Try.func14, Try.ntmps14
  go_wp2
  go_ret
  exact ⟨by first | rfl | (simp [errW_none, errW_some] <;> rfl) | (simp [*, errW_none, errW_some] <;> rfl), by repeat (first | (with_reducible first | exact HB.out | apply below_alloc | apply pw_below_drewN | apply below_drew1) | exact HB.out)⟩
  }
  {
  rw [if_neg c6] at H
  have c6b0 : decide (1048576 < (l2.length : Int)) = false := decide_eq_false c6
  have c6b1 : decide (1048576 < l2.length) = false := decide_eq_false (by omega)
  clear c6
  by_cases c7 : (l3.length : Int) > 1048576
  {
  rw [if_pos c7] at H
  have c7b0 : decide (1048576 < (l3.length : Int)) = true := decide_eq_true c7
  have c7b1 : decide (1048576 < l3.length) = true := decide_eq_true (by omega)
  clear c7
  obtain rfl := Option.some.inj H
  simp only [Option.some.injEq, Prod.mk.injEq] at H
  obtain ⟨rfl⟩ := H
  go_enter Try.func14, Try.ntmps14
  go_wp2
  go_ret
  exact ⟨by first | rfl | (simp [errW_none, errW_some] <;> rfl) | (simp [*, errW_none, errW_some] <;> rfl), by repeat (first | (with_reducible first | exact HB.out | apply below_alloc | apply pw_below_drewN | apply below_drew1) | exact HB.out)⟩
  }
  {
  rw [if_neg c7] at H
  have c7b0 : decide (1048576 < (l3.length : Int)) = false := decide_eq_false c7
  have c7b1 : decide (1048576 < l3.length) = false := decide_eq_false (by omega)
  clear c7
  replace H := Option.bind_eq_some_iff.mp H
  obtain ⟨t196, A80, H⟩ := H
  replace H : (if t196 < 0 then (some true) else ((laws_toIntSS.f k l0).bind fun t197 => ((laws_toIntS.f k l1).bind fun t200 => ((laws_toIntS.f k l2).bind fun t203 => ((laws_toIntS.f k l3).bind fun t206 => ((spec_Proves.f k t197 t200 t203 t206).bind fun t209 => ((laws_toIntSS.f k l0).bind fun t210 => ((laws_toIntS.f k l1).bind fun t213 => ((laws_toIntS.f k l2).bind fun t216 => ((laws_toIntS.f k l3).bind fun t219 => ((impl_Proves.f k t210 t213 t216 t219).bind fun t222 => (if (t222 != t209) = true then (some false) else ((laws_toIntSS.f k l0).bind fun t223 => ((laws_eqIntSS.f k t210 t223).bind fun t226 => (if t226 = true then ((laws_toIntS.f k l1).bind fun t227 => ((laws_eqIntS.f k t213 t227).bind fun t230 => (if t230 = true then ((laws_toIntS.f k l2).bind fun t231 => ((laws_eqIntS.f k t216 t231).bind fun t234 => (if t234 = true then ((laws_toIntS.f k l3).bind fun t235 => ((laws_eqIntS.f k t219 t235).bind fun t238 => (if t238 = true then (some true) else (some false)))) else (some false)))) else (some false)))) else (some false)))))))))))))))) = some r := H
  have A8 := Aside0.mk A80
  clear A80
  by_cases c9 : t196 < 0
  {
  rw [if_pos c9] at H
  have c9b0 : decide (t196 < 0) = true := decide_eq_true c9
  clear c9
  obtain rfl := Option.some.inj H
  simp only [Option.some.injEq, Prod.mk.injEq] at H
  obtain ⟨rfl⟩ := H
  go_enter Try.func14, Try.ntmps14
  go_wp2_with (first | ((with_reducible refine gate_callee (f := 37) rfl ?_); refine goesL_ (some 27) rfl rfl Try.func37 (by kernel_rfl) rfl #[.slice A0 l0.length c0, .int .i64 1048576] rfl qz3 ?_; (with_reducible refine (laws_szIntSS.calls k _ _ l0 1048576 t196 _ ?side1 ?side2 A8.out).mono ?_); (case side1 => repeat (first | exact HR0.out | (with_reducible refine Kd.C_alloc ?_ _) | (with_reducible refine Kd.C_drewN ?_ _) | (with_reducible refine Kd.C_drew ?_))); (case side2 => exact HC0.out); rintro e w' ⟨rfl, ⟨nd, rfl⟩⟩; refine ⟨_, rfl, ?_⟩))
  go_ret
  exact ⟨by first | rfl | (simp [errW_none, errW_some] <;> rfl) | (simp [*, errW_none, errW_some] <;> rfl), by repeat (first | (with_reducible first | exact HB.out | apply below_alloc | apply pw_below_drewN | apply below_drew1) | exact HB.out)⟩
  }
  {
  rw [if_neg c9] at H
  have c9b0 : decide (t196 < 0) = false := decide_eq_false c9
  clear c9
  replace H := Option.bind_eq_some_iff.mp H
  obtain ⟨t197, A100, H⟩ := H
  replace H : ((laws_toIntS.f k l1).bind fun t200 => ((laws_toIntS.f k l2).bind fun t203 => ((laws_toIntS.f k l3).bind fun t206 => ((spec_Proves.f k t197 t200 t203 t206).bind fun t209 => ((laws_toIntSS.f k l0).bind fun t210 => ((laws_toIntS.f k l1).bind fun t213 => ((laws_toIntS.f k l2).bind fun t216 => ((laws_toIntS.f k l3).bind fun t219 => ((impl_Proves.f k t210 t213 t216 t219).bind fun t222 => (if (t222 != t209) = true then (some false) else ((laws_toIntSS.f k l0).bind fun t223 => ((laws_eqIntSS.f k t210 t223).bind fun t226 => (if t226 = true then ((laws_toIntS.f k l1).bind fun t227 => ((laws_eqIntS.f k t213 t227).bind fun t230 => (if t230 = true then ((laws_toIntS.f k l2).bind fun t231 => ((laws_eqIntS.f k t216 t231).bind fun t234 => (if t234 = true then ((laws_toIntS.f k l3).bind fun t235 => ((laws_eqIntS.f k t219 t235).bind fun t238 => (if t238 = true then (some true) else (some false)))) else (some false)))) else (some false)))) else (some false)))))))))))))) = some r := H
  have A10 := Aside0.mk A100
  clear A100
  replace H := Option.bind_eq_some_iff.mp H
  obtain ⟨t200, A110, H⟩ := H
  replace H : ((laws_toIntS.f k l2).bind fun t203 => ((laws_toIntS.f k l3).bind fun t206 => ((spec_Proves.f k t197 t200 t203 t206).bind fun t209 => ((laws_toIntSS.f k l0).bind fun t210 => ((laws_toIntS.f k l1).bind fun t213 => ((laws_toIntS.f k l2).bind fun t216 => ((laws_toIntS.f k l3).bind fun t219 => ((impl_Proves.f k t210 t213 t216 t219).bind fun t222 => (if (t222 != t209) = true then (some false) else ((laws_toIntSS.f k l0).bind fun t223 => ((laws_eqIntSS.f k t210 t223).bind fun t226 => (if t226 = true then ((laws_toIntS.f k l1).bind fun t227 => ((laws_eqIntS.f k t213 t227).bind fun t230 => (if t230 = true then ((laws_toIntS.f k l2).bind fun t231 => ((laws_eqIntS.f k t216 t231).bind fun t234 => (if t234 = true then ((laws_toIntS.f k l3).bind fun t235 => ((laws_eqIntS.f k t219 t235).bind fun t238 => (if t238 = true then (some true) else (some false)))) else (some false)))) else (some false)))) else (some false))))))))))))) = some r := H
  have A11 := Aside0.mk A110
  clear A110
  replace H := Option.bind_eq_some_iff.mp H
  obtain ⟨t203, A120, H⟩ := H
  replace H : ((laws_toIntS.f k l3).bind fun t206 => ((spec_Proves.f k t197 t200 t203 t206).bind fun t209 => ((laws_toIntSS.f k l0).bind fun t210 => ((laws_toIntS.f k l1).bind fun t213 => ((laws_toIntS.f k l2).bind fun t216 => ((laws_toIntS.f k l3).bind fun t219 => ((impl_Proves.f k t210 t213 t216 t219).bind fun t222 => (if (t222 != t209) = true then (some false) else ((laws_toIntSS.f k l0).bind fun t223 => ((laws_eqIntSS.f k t210 t223).bind fun t226 => (if t226 = true then ((laws_toIntS.f k l1).bind fun t227 => ((laws_eqIntS.f k t213 t227).bind fun t230 => (if t230 = true then ((laws_toIntS.f k l2).bind fun t231 => ((laws_eqIntS.f k t216 t231).bind fun t234 => (if t234 = true then ((laws_toIntS.f k l3).bind fun t235 => ((laws_eqIntS.f k t219 t235).bind fun t238 => (if t238 = true then (some true) else (some false)))) else (some false)))) else (some false)))) else (some false)))))))))))) = some r := H
  have A12 := Aside0.mk A120
  clear A120
  replace H := Option.bind_eq_some_iff.mp H
  obtain ⟨t206, A130, H⟩ := H
  replace H : ((spec_Proves.f k t197 t200 t203 t206).bind fun t209 => ((laws_toIntSS.f k l0).bind fun t210 => ((laws_toIntS.f k l1).bind fun t213 => ((laws_toIntS.f k l2).bind fun t216 => ((laws_toIntS.f k l3).bind fun t219 => ((impl_Proves.f k t210 t213 t216 t219).bind fun t222 => (if (t222 != t209) = true then (some false) else ((laws_toIntSS.f k l0).bind fun t223 => ((laws_eqIntSS.f k t210 t223).bind fun t226 => (if t226 = true then ((laws_toIntS.f k l1).bind fun t227 => ((laws_eqIntS.f k t213 t227).bind fun t230 => (if t230 = true then ((laws_toIntS.f k l2).bind fun t231 => ((laws_eqIntS.f k t216 t231).bind fun t234 => (if t234 = true then ((laws_toIntS.f k l3).bind fun t235 => ((laws_eqIntS.f k t219 t235).bind fun t238 => (if t238 = true then (some true) else (some false)))) else (some false)))) else (some false)))) else (some false))))))))))) = some r := H
  have A13 := Aside0.mk A130
  clear A130
  replace H := Option.bind_eq_some_iff.mp H
  obtain ⟨t209, A140, H⟩ := H
  replace H : ((laws_toIntSS.f k l0).bind fun t210 => ((laws_toIntS.f k l1).bind fun t213 => ((laws_toIntS.f k l2).bind fun t216 => ((laws_toIntS.f k l3).bind fun t219 => ((impl_Proves.f k t210 t213 t216 t219).bind fun t222 => (if (t222 != t209) = true then (some false) else ((laws_toIntSS.f k l0).bind fun t223 => ((laws_eqIntSS.f k t210 t223).bind fun t226 => (if t226 = true then ((laws_toIntS.f k l1).bind fun t227 => ((laws_eqIntS.f k t213 t227).bind fun t230 => (if t230 = true then ((laws_toIntS.f k l2).bind fun t231 => ((laws_eqIntS.f k t216 t231).bind fun t234 => (if t234 = true then ((laws_toIntS.f k l3).bind fun t235 => ((laws_eqIntS.f k t219 t235).bind fun t238 => (if t238 = true then (some true) else (some false)))) else (some false)))) else (some false)))) else (some false)))))))))) = some r := H
  have A14 := Aside0.mk A140
  clear A140
  replace H := Option.bind_eq_some_iff.mp H
  obtain ⟨t210, A150, H⟩ := H
  replace H : ((laws_toIntS.f k l1).bind fun t213 => ((laws_toIntS.f k l2).bind fun t216 => ((laws_toIntS.f k l3).bind fun t219 => ((impl_Proves.f k t210 t213 t216 t219).bind fun t222 => (if (t222 != t209) = true then (some false) else ((laws_toIntSS.f k l0).bind fun t223 => ((laws_eqIntSS.f k t210 t223).bind fun t226 => (if t226 = true then ((laws_toIntS.f k l1).bind fun t227 => ((laws_eqIntS.f k t213 t227).bind fun t230 => (if t230 = true then ((laws_toIntS.f k l2).bind fun t231 => ((laws_eqIntS.f k t216 t231).bind fun t234 => (if t234 = true then ((laws_toIntS.f k l3).bind fun t235 => ((laws_eqIntS.f k t219 t235).bind fun t238 => (if t238 = true then (some true) else (some false)))) else (some false)))) else (some false)))) else (some false))))))))) = some r := H
  have A15 := Aside0.mk A150
  clear A150
  replace H := Option.bind_eq_some_iff.mp H
  obtain ⟨t213, A160, H⟩ := H
  replace H : ((laws_toIntS.f k l2).bind fun t216 => ((laws_toIntS.f k l3).bind fun t219 => ((impl_Proves.f k t210 t213 t216 t219).bind fun t222 => (if (t222 != t209) = true then (some false) else ((laws_toIntSS.f k l0).bind fun t223 => ((laws_eqIntSS.f k t210 t223).bind fun t226 => (if t226 = true then ((laws_toIntS.f k l1).bind fun t227 => ((laws_eqIntS.f k t213 t227).bind fun t230 => (if t230 = true then ((laws_toIntS.f k l2).bind fun t231 => ((laws_eqIntS.f k t216 t231).bind fun t234 => (if t234 = true then ((laws_toIntS.f k l3).bind fun t235 => ((laws_eqIntS.f k t219 t235).bind fun t238 => (if t238 = true then (some true) else (some false)))) else (some false)))) else (some false)))) else (some false)))))))) = some r := H
  have A16 := Aside0.mk A160
  clear A160
  replace H := Option.bind_eq_some_iff.mp H
  obtain ⟨t216, A170, H⟩ := H
  replace H : ((laws_toIntS.f k l3).bind fun t219 => ((impl_Proves.f k t210 t213 t216 t219).bind fun t222 => (if (t222 != t209) = true then (some false) else ((laws_toIntSS.f k l0).bind fun t223 => ((laws_eqIntSS.f k t210 t223).bind fun t226 => (if t226 = true then ((laws_toIntS.f k l1).bind fun t227 => ((laws_eqIntS.f k t213 t227).bind fun t230 => (if t230 = true then ((laws_toIntS.f k l2).bind fun t231 => ((laws_eqIntS.f k t216 t231).bind fun t234 => (if t234 = true then ((laws_toIntS.f k l3).bind fun t235 => ((laws_eqIntS.f k t219 t235).bind fun t238 => (if t238 = true then (some true) else (some false)))) else (some false)))) else (some false)))) else (some false))))))) = some r := H
  have A17 := Aside0.mk A170
  clear A170
  replace H := Option.bind_eq_some_iff.mp H
  obtain ⟨t219, A180, H⟩ := H
  replace H : ((impl_Proves.f k t210 t213 t216 t219).bind fun t222 => (if (t222 != t209) = true then (some false) else ((laws_toIntSS.f k l0).bind fun t223 => ((laws_eqIntSS.f k t210 t223).bind fun t226 => (if t226 = true then ((laws_toIntS.f k l1).bind fun t227 => ((laws_eqIntS.f k t213 t227).bind fun t230 => (if t230 = true then ((laws_toIntS.f k l2).bind fun t231 => ((laws_eqIntS.f k t216 t231).bind fun t234 => (if t234 = true then ((laws_toIntS.f k l3).bind fun t235 => ((laws_eqIntS.f k t219 t235).bind fun t238 => (if t238 = true then (some true) else (some false)))) else (some false)))) else (some false)))) else (some false)))))) = some r := H
  have A18 := Aside0.mk A180
  clear A180
  replace H := Option.bind_eq_some_iff.mp H
  obtain ⟨t222, A190, H⟩ := H
  replace H : (if (t222 != t209) = true then (some false) else ((laws_toIntSS.f k l0).bind fun t223 => ((laws_eqIntSS.f k t210 t223).bind fun t226 => (if t226 = true then ((laws_toIntS.f k l1).bind fun t227 => ((laws_eqIntS.f k t213 t227).bind fun t230 => (if t230 = true then ((laws_toIntS.f k l2).bind fun t231 => ((laws_eqIntS.f k t216 t231).bind fun t234 => (if t234 = true then ((laws_toIntS.f k l3).bind fun t235 => ((laws_eqIntS.f k t219 t235).bind fun t238 => (if t238 = true then (some true) else (some false)))) else (some false)))) else (some false)))) else (some false))))) = some r := H
  have A19 := Aside0.mk A190
  clear A190
  by_cases c20 : (t222 != t209) = true
  {
  rw [if_pos c20] at H
  have c20b0 : (t222 != t209) = true := c20
  (try (have c20b1 : decide (t222 = t209) = false := by simpa using c20))
  (try (have c20b2 : (t222 == t209) = false := by simpa using c20))
  (try (have c20b3 : ¬ (t222 = t209) := by simpa using c20))
  clear c20
  obtain rfl := Option.some.inj H
  exact absurd HTR_.out (by decide)
  }
  {
  rw [if_neg c20] at H
  have c20b0 : (t222 != t209) = false := by simpa using c20
  (try (have c20b1 : decide (t222 = t209) = true := by simpa using c20))
  (try (have c20b2 : (t222 == t209) = true := by simpa using c20))
  clear c20
  replace H := Option.bind_eq_some_iff.mp H
  obtain ⟨t223, A210, H⟩ := H
  replace H : ((laws_eqIntSS.f k t210 t223).bind fun t226 => (if t226 = true then ((laws_toIntS.f k l1).bind fun t227 => ((laws_eqIntS.f k t213 t227).bind fun t230 => (if t230 = true then ((laws_toIntS.f k l2).bind fun t231 => ((laws_eqIntS.f k t216 t231).bind fun t234 => (if t234 = true then ((laws_toIntS.f k l3).bind fun t235 => ((laws_eqIntS.f k t219 t235).bind fun t238 => (if t238 = true then (some true) else (some false)))) else (some false)))) else (some false)))) else (some false))) = some r := H
  have A21 := Aside0.mk A210
  clear A210
  replace H := Option.bind_eq_some_iff.mp H
  obtain ⟨t226, A220, H⟩ := H
  replace H : (if t226 = true then ((laws_toIntS.f k l1).bind fun t227 => ((laws_eqIntS.f k t213 t227).bind fun t230 => (if t230 = true then ((laws_toIntS.f k l2).bind fun t231 => ((laws_eqIntS.f k t216 t231).bind fun t234 => (if t234 = true then ((laws_toIntS.f k l3).bind fun t235 => ((laws_eqIntS.f k t219 t235).bind fun t238 => (if t238 = true then (some true) else (some false)))) else (some false)))) else (some false)))) else (some false)) = some r := H
  have A22 := Aside0.mk A220
  clear A220
  by_cases c23 : t226 = true
  {
  subst c23
  have H1 : ((laws_toIntS.f k l1).bind fun t227 => ((laws_eqIntS.f k t213 t227).bind fun t230 => (if t230 = true then ((laws_toIntS.f k l2).bind fun t231 => ((laws_eqIntS.f k t216 t231).bind fun t234 => (if t234 = true then ((laws_toIntS.f k l3).bind fun t235 => ((laws_eqIntS.f k t219 t235).bind fun t238 => (if t238 = true then (some true) else (some false)))) else (some false)))) else (some false)))) = some r := by rw [if_pos rfl] at H; exact H
  clear H
  have H := H1
  clear H1
  replace H := Option.bind_eq_some_iff.mp H
  obtain ⟨t227, A240, H⟩ := H
  replace H : ((laws_eqIntS.f k t213 t227).bind fun t230 => (if t230 = true then ((laws_toIntS.f k l2).bind fun t231 => ((laws_eqIntS.f k t216 t231).bind fun t234 => (if t234 = true then ((laws_toIntS.f k l3).bind fun t235 => ((laws_eqIntS.f k t219 t235).bind fun t238 => (if t238 = true then (some true) else (some false)))) else (some false)))) else (some false))) = some r := H
  have A24 := Aside0.mk A240
  clear A240
  replace H := Option.bind_eq_some_iff.mp H
  obtain ⟨t230, A250, H⟩ := H
  replace H : (if t230 = true then ((laws_toIntS.f k l2).bind fun t231 => ((laws_eqIntS.f k t216 t231).bind fun t234 => (if t234 = true then ((laws_toIntS.f k l3).bind fun t235 => ((laws_eqIntS.f k t219 t235).bind fun t238 => (if t238 = true then (some true) else (some false)))) else (some false)))) else (some false)) = some r := H
  have A25 := Aside0.mk A250
  clear A250
  by_cases c26 : t230 = true
  {
  subst c26
  have H1 : ((laws_toIntS.f k l2).bind fun t231 => ((laws_eqIntS.f k t216 t231).bind fun t234 => (if t234 = true then ((laws_toIntS.f k l3).bind fun t235 => ((laws_eqIntS.f k t219 t235).bind fun t238 => (if t238 = true then (some true) else (some false)))) else (some false)))) = some r := by rw [if_pos rfl] at H; exact H
  clear H
  have H := H1
  clear H1
  replace H := Option.bind_eq_some_iff.mp H
  obtain ⟨t231, A270, H⟩ := H
  replace H : ((laws_eqIntS.f k t216 t231).bind fun t234 => (if t234 = true then ((laws_toIntS.f k l3).bind fun t235 => ((laws_eqIntS.f k t219 t235).bind fun t238 => (if t238 = true then (some true) else (some false)))) else (some false))) = some r := H
  have A27 := Aside0.mk A270
  clear A270
  replace H := Option.bind_eq_some_iff.mp H
  obtain ⟨t234, A280, H⟩ := H
  replace H : (if t234 = true then ((laws_toIntS.f k l3).bind fun t235 => ((laws_eqIntS.f k t219 t235).bind fun t238 => (if t238 = true then (some true) else (some false)))) else (some false)) = some r := H
  have A28 := Aside0.mk A280
  clear A280
  by_cases c29 : t234 = true
  {
  subst c29
  have H1 : ((laws_toIntS.f k l3).bind fun t235 => ((laws_eqIntS.f k t219 t235).bind fun t238 => (if t238 = true then (some true) else (some false)))) = some r := by rw [if_pos rfl] at H; exact H
  clear H
  have H := H1
  clear H1
  replace H := Option.bind_eq_some_iff.mp H
  obtain ⟨t235, A300, H⟩ := H
  replace H : ((laws_eqIntS.f k t219 t235).bind fun t238 => (if t238 = true then (some true) else (some false))) = some r := H
  have A30 := Aside0.mk A300
  clear A300
  replace H := Option.bind_eq_some_iff.mp H
  obtain ⟨t238, A310, H⟩ := H
  replace H : (if t238 = true then (some true) else (some false)) = some r := H
  have A31 := Aside0.mk A310
  clear A310
  by_cases c32 : t238 = true
  {
  subst c32
  have H1 : (some true) = some r := by rw [if_pos rfl] at H; exact H
  clear H
  have H := H1
  clear H1
  obtain rfl := Option.some.inj H
  simp only [Option.some.injEq, Prod.mk.injEq] at H
  obtain ⟨rfl⟩ := H
  go_enter Try.func14, Try.ntmps14
  go_wp2_with (first | ((with_reducible refine gate_callee (f := 37) rfl ?_); refine goesL_ (some 27) rfl rfl Try.func37 (by kernel_rfl) rfl #[.slice A0 l0.length c0, .int .i64 1048576] rfl qz3 ?_; (with_reducible refine (laws_szIntSS.calls k _ _ l0 1048576 t196 _ ?side1 ?side2 A8.out).mono ?_); (case side1 => repeat (first | exact HR0.out | (with_reducible refine Kd.C_alloc ?_ _) | (with_reducible refine Kd.C_drewN ?_ _) | (with_reducible refine Kd.C_drew ?_))); (case side2 => exact HC0.out); rintro e w' ⟨rfl, ⟨nd, rfl⟩⟩; refine ⟨_, rfl, ?_⟩) | ((with_reducible refine gate_callee (f := 39) rfl ?_); refine goesL_ (some 31) rfl rfl Try.func39 (by kernel_rfl) rfl #[.slice A0 l0.length c0] rfl qz3 ?_; (with_reducible refine (laws_toIntSS.calls k _ _ l0 t197 _ ?side1 ?side2 A10.out).mono ?_); (case side1 => repeat (first | exact HR0.out | (with_reducible refine Kd.C_alloc ?_ _) | (with_reducible refine Kd.C_drewN ?_ _) | (with_reducible refine Kd.C_drew ?_))); (case side2 => exact HC0.out); rintro e w33 ⟨v198, rfl, ho0, hb⟩; refine ⟨_, rfl, ?_⟩; have n0_ := Aside0.mk (Kd.S_lower ho0 (below_size qz2)); have n1_ := Aside0.mk (below_step qz2 hb); clear HB; have HO199 := n0_; have HB := n1_; clear n0_ n1_; (try clear hb); (try clear hb2); (try clear hk); (try clear hi); (try clear ho0)) | ((with_reducible refine gate_callee (f := 40) rfl ?_); refine goesL_ (some 33) rfl rfl Try.func40 (by kernel_rfl) rfl #[.slice A1 l1.length c1] rfl qz3 ?_; (with_reducible refine (laws_toIntS.calls k _ _ l1 t200 _ ?side1 ?side2 A11.out).mono ?_); (case side1 => repeat (first | exact (Kd.C_below HR1.out HB.out) | (with_reducible refine Kd.C_alloc ?_ _) | (with_reducible refine Kd.C_drewN ?_ _) | (with_reducible refine Kd.C_drew ?_))); (case side2 => exact HC1.out); rintro e w34 ⟨v201, rfl, ho0, hb⟩; refine ⟨_, rfl, ?_⟩; have n0_ := Aside0.mk (Kd.S_elder' (by (with_reducible repeat (first | apply Kd.S_alloc | apply Kd.S_drewN | apply Kd.S_drew)); exact HO199.out) (Kd.R_base ho0) hb); have n1_ := Aside0.mk (Kd.R_lower ho0 (below_size qz2)); have n2_ := Aside0.mk (below_step qz2 hb); clear HO199; clear HB; have HO199 := n0_; have HO202 := n1_; have HB := n2_; clear n0_ n1_ n2_; (try clear hb); (try clear hb2); (try clear hk); (try clear hi); (try clear ho0)) | ((with_reducible refine gate_callee (f := 40) rfl ?_); refine goesL_ (some 35) rfl rfl Try.func40 (by kernel_rfl) rfl #[.slice A2 l2.length c2] rfl qz3 ?_; (with_reducible refine (laws_toIntS.calls k _ _ l2 t203 _ ?side1 ?side2 A12.out).mono ?_); (case side1 => repeat (first | exact (Kd.C_below HR2.out HB.out) | (with_reducible refine Kd.C_alloc ?_ _) | (with_reducible refine Kd.C_drewN ?_ _) | (with_reducible refine Kd.C_drew ?_))); (case side2 => exact HC2.out); rintro e w35 ⟨v204, rfl, ho0, hb⟩; refine ⟨_, rfl, ?_⟩; have n0_ := Aside0.mk (Kd.S_elder' (by (with_reducible repeat (first | apply Kd.S_alloc | apply Kd.S_drewN | apply Kd.S_drew)); exact HO199.out) (Kd.R_base ho0) hb); have n1_ := Aside0.mk (Kd.R_elder' qz5 (Kd.R_base ho0) hb); have n2_ := Aside0.mk (Kd.R_lower (Kd.R_new' ho0 (Kd.R_lt qz5)) (below_size qz2)); have n3_ := Aside0.mk (below_step qz2 hb); clear HO199; clear HO202; clear HB; have HO199 := n0_; have HO202 := n1_; have HO205 := n2_; have HB := n3_; clear n0_ n1_ n2_ n3_; (try clear hb); (try clear hb2); (try clear hk); (try clear hi); (try clear ho0)) | ((with_reducible refine gate_callee (f := 40) rfl ?_); refine goesL_ (some 37) rfl rfl Try.func40 (by kernel_rfl) rfl #[.slice A3 l3.length c3] rfl qz3 ?_; (with_reducible refine (laws_toIntS.calls k _ _ l3 t206 _ ?side1 ?side2 A13.out).mono ?_); (case side1 => repeat (first | exact (Kd.C_below HR3.out HB.out) | (with_reducible refine Kd.C_alloc ?_ _) | (with_reducible refine Kd.C_drewN ?_ _) | (with_reducible refine Kd.C_drew ?_))); (case side2 => exact HC3.out); rintro e w36 ⟨v207, rfl, ho0, hb⟩; refine ⟨_, rfl, ?_⟩; have n0_ := Aside0.mk (Kd.S_elder' (by (with_reducible repeat (first | apply Kd.S_alloc | apply Kd.S_drewN | apply Kd.S_drew)); exact HO199.out) (Kd.R_base ho0) hb); have n1_ := Aside0.mk (Kd.R_elder' qz5 (Kd.R_base ho0) hb); have n2_ := Aside0.mk (Kd.R_elder' qz6 (Kd.R_base ho0) hb); have n3_ := Aside0.mk (Kd.R_lower (Kd.R_new' (Kd.R_new' ho0 (Kd.R_lt qz5)) (Kd.R_lt qz6)) (below_size qz2)); have n4_ := Aside0.mk (below_step qz2 hb); clear HO199; clear HO202; clear HO205; clear HB; have HO199 := n0_; have HO202 := n1_; have HO205 := n2_; have HO208 := n3_; have HB := n4_; clear n0_ n1_ n2_ n3_ n4_; (try clear hb); (try clear hb2); (try clear hk); (try clear hi); (try clear ho0); obtain ⟨Ao37, co37, eo37⟩ := Kd.S_slice HO199.out; subst eo37; obtain ⟨Ao38, co38, eo38⟩ := Kd.R_slice HO202.out; subst eo38; obtain ⟨Ao39, co39, eo39⟩ := Kd.R_slice HO205.out; subst eo39; obtain ⟨Ao40, co40, eo40⟩ := Kd.R_slice HO208.out; subst eo40) | ((with_reducible refine gate_callee (f := 66) rfl ?_); refine goesL_ (some 38) rfl rfl Try.func66 (by kernel_rfl) rfl #[.slice Ao37 t197.length co37, .slice Ao38 t200.length co38, .slice Ao39 t203.length co39, .slice Ao40 t206.length co40] rfl qz3 ?_; (with_reducible refine (spec_Proves.calls k _ _ t197 _ _ t200 _ _ t203 _ _ t206 t209 _ ?side1 ?side2 ?side3 ?side4 ?side5 ?side6 ?side7 ?side8 A14.out).mono ?_); (case side1 => repeat (first | exact (Kd.S_reads' HO199.out).2.2 | (with_reducible refine Kd.C_alloc ?_ _) | (with_reducible refine Kd.C_drewN ?_ _) | (with_reducible refine Kd.C_drew ?_))); (case side2 => exact (Kd.S_reads' HO199.out).2.1); (case side3 => repeat (first | exact (Kd.R_reads' HO202.out).2.2 | (with_reducible refine Kd.C_alloc ?_ _) | (with_reducible refine Kd.C_drewN ?_ _) | (with_reducible refine Kd.C_drew ?_))); (case side4 => exact (Kd.R_reads' HO202.out).2.1); (case side5 => repeat (first | exact (Kd.R_reads' HO205.out).2.2 | (with_reducible refine Kd.C_alloc ?_ _) | (with_reducible refine Kd.C_drewN ?_ _) | (with_reducible refine Kd.C_drew ?_))); (case side6 => exact (Kd.R_reads' HO205.out).2.1); (case side7 => repeat (first | exact (Kd.R_reads' HO208.out).2.2 | (with_reducible refine Kd.C_alloc ?_ _) | (with_reducible refine Kd.C_drewN ?_ _) | (with_reducible refine Kd.C_drew ?_))); (case side8 => exact (Kd.R_reads' HO208.out).2.1); rintro e w41 ⟨rfl, hb⟩; refine ⟨_, rfl, ?_⟩; have n0_ := Aside0.mk (Kd.S_below (by (with_reducible repeat (first | apply Kd.S_alloc | apply Kd.S_drewN | apply Kd.S_drew)); exact HO199.out) hb); have n1_ := Aside0.mk (Kd.R_below qz5 hb); have n2_ := Aside0.mk (Kd.R_below qz6 hb); have n3_ := Aside0.mk (Kd.R_below qz7 hb); have n4_ := Aside0.mk (below_step qz2 hb); clear HO199; clear HO202; clear HO205; clear HO208; clear HB; have HO199 := n0_; have HO202 := n1_; have HO205 := n2_; have HO208 := n3_; have HB := n4_; clear n0_ n1_ n2_ n3_ n4_; (try clear hb); (try clear hb2); (try clear hk); (try clear hi)) | ((with_reducible refine gate_callee (f := 39) rfl ?_); refine goesL_ (some 40) rfl rfl Try.func39 (by kernel_rfl) rfl #[.slice A0 l0.length c0] rfl qz3 ?_; (with_reducible refine (laws_toIntSS.calls k _ _ l0 t210 _ ?side1 ?side2 A15.out).mono ?_); (case side1 => repeat (first | exact (Kd.C_below HR0.out HB.out) | (with_reducible refine Kd.C_alloc ?_ _) | (with_reducible refine Kd.C_drewN ?_ _) | (with_reducible refine Kd.C_drew ?_))); (case side2 => exact HC0.out); rintro e w42 ⟨v211, rfl, ho0, hb⟩; refine ⟨_, rfl, ?_⟩; have n0_ := Aside0.mk (Kd.S_elder' (by (with_reducible repeat (first | apply Kd.S_alloc | apply Kd.S_drewN | apply Kd.S_drew)); exact HO199.out) (Kd.S_base ho0) hb); have n1_ := Aside0.mk (Kd.R_below qz5 hb); have n2_ := Aside0.mk (Kd.R_below qz6 hb); have n3_ := Aside0.mk (Kd.R_below qz7 hb); have n4_ := Aside0.mk (Kd.S_lower (Kd.S_new' (Kd.S_new' (Kd.S_new' (Kd.S_new' ho0 (Kd.S_lt (by (with_reducible repeat (first | apply Kd.S_alloc | apply Kd.S_drewN | apply Kd.S_drew)); exact HO199.out))) (Kd.R_lt qz5)) (Kd.R_lt qz6)) (Kd.R_lt qz7)) (below_size qz2)); have n5_ := Aside0.mk (below_step qz2 hb); clear HO199; clear HO202; clear HO205; clear HO208; clear HB; have HO199 := n0_; have HO202 := n1_; have HO205 := n2_; have HO208 := n3_; have HO212 := n4_; have HB := n5_; clear n0_ n1_ n2_ n3_ n4_ n5_; (try clear hb); (try clear hb2); (try clear hk); (try clear hi); (try clear ho0)) | ((with_reducible refine gate_callee (f := 40) rfl ?_); refine goesL_ (some 42) rfl rfl Try.func40 (by kernel_rfl) rfl #[.slice A1 l1.length c1] rfl qz3 ?_; (with_reducible refine (laws_toIntS.calls k _ _ l1 t213 _ ?side1 ?side2 A16.out).mono ?_); (case side1 => repeat (first | exact (Kd.C_below HR1.out HB.out) | (with_reducible refine Kd.C_alloc ?_ _) | (with_reducible refine Kd.C_drewN ?_ _) | (with_reducible refine Kd.C_drew ?_))); (case side2 => exact HC1.out); rintro e w43 ⟨v214, rfl, ho0, hb⟩; refine ⟨_, rfl, ?_⟩; have n0_ := Aside0.mk (Kd.S_elder' (by (with_reducible repeat (first | apply Kd.S_alloc | apply Kd.S_drewN | apply Kd.S_drew)); exact HO199.out) (Kd.R_base ho0) hb); have n1_ := Aside0.mk (Kd.R_elder' qz5 (Kd.R_base ho0) hb); have n2_ := Aside0.mk (Kd.R_elder' qz6 (Kd.R_base ho0) hb); have n3_ := Aside0.mk (Kd.R_elder' qz7 (Kd.R_base ho0) hb); have n4_ := Aside0.mk (Kd.S_elder' (by (with_reducible repeat (first | apply Kd.S_alloc | apply Kd.S_drewN | apply Kd.S_drew)); exact HO212.out) (Kd.R_base ho0) hb); have n5_ := Aside0.mk (Kd.R_lower (Kd.R_new' (Kd.R_new' (Kd.R_new' ho0 (Kd.R_lt qz5)) (Kd.R_lt qz6)) (Kd.R_lt qz7)) (below_size qz2)); have n6_ := Aside0.mk (below_step qz2 hb); clear HO199; clear HO202; clear HO205; clear HO208; clear HO212; clear HB; have HO199 := n0_; have HO202 := n1_; have HO205 := n2_; have HO208 := n3_; have HO212 := n4_; have HO215 := n5_; have HB := n6_; clear n0_ n1_ n2_ n3_ n4_ n5_ n6_; (try clear hb); (try clear hb2); (try clear hk); (try clear hi); (try clear ho0)) | ((with_reducible refine gate_callee (f := 40) rfl ?_); refine goesL_ (some 44) rfl rfl Try.func40 (by kernel_rfl) rfl #[.slice A2 l2.length c2] rfl qz3 ?_; (with_reducible refine (laws_toIntS.calls k _ _ l2 t216 _ ?side1 ?side2 A17.out).mono ?_); (case side1 => repeat (first | exact (Kd.C_below HR2.out HB.out) | (with_reducible refine Kd.C_alloc ?_ _) | (with_reducible refine Kd.C_drewN ?_ _) | (with_reducible refine Kd.C_drew ?_))); (case side2 => exact HC2.out); rintro e w44 ⟨v217, rfl, ho0, hb⟩; refine ⟨_, rfl, ?_⟩; have n0_ := Aside0.mk (Kd.S_elder' (by (with_reducible repeat (first | apply Kd.S_alloc | apply Kd.S_drewN | apply Kd.S_drew)); exact HO199.out) (Kd.R_base ho0) hb); have n1_ := Aside0.mk (Kd.R_elder' qz5 (Kd.R_base ho0) hb); have n2_ := Aside0.mk (Kd.R_elder' qz6 (Kd.R_base ho0) hb); have n3_ := Aside0.mk (Kd.R_elder' qz7 (Kd.R_base ho0) hb); have n4_ := Aside0.mk (Kd.S_elder' (by (with_reducible repeat (first | apply Kd.S_alloc | apply Kd.S_drewN | apply Kd.S_drew)); exact HO212.out) (Kd.R_base ho0) hb); have n5_ := Aside0.mk (Kd.R_elder' (by (with_reducible repeat (first | apply Kd.R_alloc | apply Kd.R_drewN | apply Kd.R_drew)); exact HO215.out) (Kd.R_base ho0) hb); have n6_ := Aside0.mk (Kd.R_lower (Kd.R_new' (Kd.R_new' (Kd.R_new' (Kd.R_new' ho0 (Kd.R_lt qz5)) (Kd.R_lt qz6)) (Kd.R_lt qz7)) (Kd.R_lt (by (with_reducible repeat (first | apply Kd.R_alloc | apply Kd.R_drewN | apply Kd.R_drew)); exact HO215.out))) (below_size qz2)); have n7_ := Aside0.mk (below_step qz2 hb); clear HO199; clear HO202; clear HO205; clear HO208; clear HO212; clear HO215; clear HB; have HO199 := n0_; have HO202 := n1_; have HO205 := n2_; have HO208 := n3_; have HO212 := n4_; have HO215 := n5_; have HO218 := n6_; have HB := n7_; clear n0_ n1_ n2_ n3_ n4_ n5_ n6_ n7_; (try clear hb); (try clear hb2); (try clear hk); (try clear hi); (try clear ho0)) | ((with_reducible refine gate_callee (f := 40) rfl ?_); refine goesL_ (some 46) rfl rfl Try.func40 (by kernel_rfl) rfl #[.slice A3 l3.length c3] rfl qz3 ?_; (with_reducible refine (laws_toIntS.calls k _ _ l3 t219 _ ?side1 ?side2 A18.out).mono ?_); (case side1 => repeat (first | exact (Kd.C_below HR3.out HB.out) | (with_reducible refine Kd.C_alloc ?_ _) | (with_reducible refine Kd.C_drewN ?_ _) | (with_reducible refine Kd.C_drew ?_))); (case side2 => exact HC3.out); rintro e w45 ⟨v220, rfl, ho0, hb⟩; refine ⟨_, rfl, ?_⟩; have n0_ := Aside0.mk (Kd.S_elder' (by (with_reducible repeat (first | apply Kd.S_alloc | apply Kd.S_drewN | apply Kd.S_drew)); exact HO199.out) (Kd.R_base ho0) hb); have n1_ := Aside0.mk (Kd.R_elder' qz5 (Kd.R_base ho0) hb); have n2_ := Aside0.mk (Kd.R_elder' qz6 (Kd.R_base ho0) hb); have n3_ := Aside0.mk (Kd.R_elder' qz7 (Kd.R_base ho0) hb); have n4_ := Aside0.mk (Kd.S_elder' (by (with_reducible repeat (first | apply Kd.S_alloc | apply Kd.S_drewN | apply Kd.S_drew)); exact HO212.out) (Kd.R_base ho0) hb); have n5_ := Aside0.mk (Kd.R_elder' (by (with_reducible repeat (first | apply Kd.R_alloc | apply Kd.R_drewN | apply Kd.R_drew)); exact HO215.out) (Kd.R_base ho0) hb); have n6_ := Aside0.mk (Kd.R_elder' (by (with_reducible repeat (first | apply Kd.R_alloc | apply Kd.R_drewN | apply Kd.R_drew)); exact HO218.out) (Kd.R_base ho0) hb); have n7_ := Aside0.mk (Kd.R_lower (Kd.R_new' (Kd.R_new' (Kd.R_new' (Kd.R_new' (Kd.R_new' ho0 (Kd.R_lt qz5)) (Kd.R_lt qz6)) (Kd.R_lt qz7)) (Kd.R_lt (by (with_reducible repeat (first | apply Kd.R_alloc | apply Kd.R_drewN | apply Kd.R_drew)); exact HO215.out))) (Kd.R_lt (by (with_reducible repeat (first | apply Kd.R_alloc | apply Kd.R_drewN | apply Kd.R_drew)); exact HO218.out))) (below_size qz2)); have n8_ := Aside0.mk (below_step qz2 hb); clear HO199; clear HO202; clear HO205; clear HO208; clear HO212; clear HO215; clear HO218; clear HB; have HO199 := n0_; have HO202 := n1_; have HO205 := n2_; have HO208 := n3_; have HO212 := n4_; have HO215 := n5_; have HO218 := n6_; have HO221 := n7_; have HB := n8_; clear n0_ n1_ n2_ n3_ n4_ n5_ n6_ n7_ n8_; (try clear hb); (try clear hb2); (try clear hk); (try clear hi); (try clear ho0); obtain ⟨Ao46, co46, eo46⟩ := Kd.S_slice HO212.out; subst eo46; obtain ⟨Ao47, co47, eo47⟩ := Kd.R_slice HO215.out; subst eo47; obtain ⟨Ao48, co48, eo48⟩ := Kd.R_slice HO218.out; subst eo48; obtain ⟨Ao49, co49, eo49⟩ := Kd.R_slice HO221.out; subst eo49) | ((with_reducible refine gate_callee (f := 67) rfl ?_); refine goesL_ (some 51) rfl rfl Try.func67 (by kernel_rfl) rfl #[.slice Ao46 t210.length co46, .slice Ao47 t213.length co47, .slice Ao48 t216.length co48, .slice Ao49 t219.length co49] rfl qz3 ?_; (with_reducible refine (impl_Proves.calls k _ _ t210 _ _ t213 _ _ t216 _ _ t219 t222 _ ?side1 ?side2 ?side3 ?side4 ?side5 ?side6 ?side7 ?side8 A19.out).mono ?_); (case side1 => repeat (first | exact (Kd.S_reads' HO212.out).2.2 | (with_reducible refine Kd.C_alloc ?_ _) | (with_reducible refine Kd.C_drewN ?_ _) | (with_reducible refine Kd.C_drew ?_))); (case side2 => exact (Kd.S_reads' HO212.out).2.1); (case side3 => repeat (first | exact (Kd.R_reads' HO215.out).2.2 | (with_reducible refine Kd.C_alloc ?_ _) | (with_reducible refine Kd.C_drewN ?_ _) | (with_reducible refine Kd.C_drew ?_))); (case side4 => exact (Kd.R_reads' HO215.out).2.1); (case side5 => repeat (first | exact (Kd.R_reads' HO218.out).2.2 | (with_reducible refine Kd.C_alloc ?_ _) | (with_reducible refine Kd.C_drewN ?_ _) | (with_reducible refine Kd.C_drew ?_))); (case side6 => exact (Kd.R_reads' HO218.out).2.1); (case side7 => repeat (first | exact (Kd.R_reads' HO221.out).2.2 | (with_reducible refine Kd.C_alloc ?_ _) | (with_reducible refine Kd.C_drewN ?_ _) | (with_reducible refine Kd.C_drew ?_))); (case side8 => exact (Kd.R_reads' HO221.out).2.1); rintro e w' ⟨rfl, ⟨nd, rfl⟩⟩; refine ⟨_, rfl, ?_⟩) | ((with_reducible refine gate_callee (f := 39) rfl ?_); refine goesL_ (some 57) rfl rfl Try.func39 (by kernel_rfl) rfl #[.slice A0 l0.length c0] rfl qz3 ?_; (with_reducible refine (laws_toIntSS.calls k _ _ l0 t223 _ ?side1 ?side2 A21.out).mono ?_); (case side1 => repeat (first | exact (Kd.C_below HR0.out qz2) | (with_reducible refine Kd.C_alloc ?_ _) | (with_reducible refine Kd.C_drewN ?_ _) | (with_reducible refine Kd.C_drew ?_))); (case side2 => exact HC0.out); rintro e w50 ⟨v224, rfl, ho0, hb⟩; refine ⟨_, rfl, ?_⟩; have n0_ := Aside0.mk (Kd.S_elder' (by (with_reducible repeat (first | apply Kd.S_alloc | apply Kd.S_drewN | apply Kd.S_drew)); exact HO199.out) (Kd.S_base ho0) hb); have n1_ := Aside0.mk (Kd.R_below qz5 hb); have n2_ := Aside0.mk (Kd.R_below qz6 hb); have n3_ := Aside0.mk (Kd.R_below qz7 hb); have n4_ := Aside0.mk (Kd.S_elder' (by (with_reducible repeat (first | apply Kd.S_alloc | apply Kd.S_drewN | apply Kd.S_drew)); exact HO212.out) (Kd.S_base ho0) hb); have n5_ := Aside0.mk (Kd.R_below (by (with_reducible repeat (first | apply Kd.R_alloc | apply Kd.R_drewN | apply Kd.R_drew)); exact HO215.out) hb); have n6_ := Aside0.mk (Kd.R_below (by (with_reducible repeat (first | apply Kd.R_alloc | apply Kd.R_drewN | apply Kd.R_drew)); exact HO218.out) hb); have n7_ := Aside0.mk (Kd.R_below (by (with_reducible repeat (first | apply Kd.R_alloc | apply Kd.R_drewN | apply Kd.R_drew)); exact HO221.out) hb); have n8_ := Aside0.mk (Kd.S_lower (Kd.S_new' (Kd.S_new' (Kd.S_new' (Kd.S_new' (Kd.S_new' (Kd.S_new' (Kd.S_new' (Kd.S_new' ho0 (Kd.S_lt (by (with_reducible repeat (first | apply Kd.S_alloc | apply Kd.S_drewN | apply Kd.S_drew)); exact HO199.out))) (Kd.R_lt qz5)) (Kd.R_lt qz6)) (Kd.R_lt qz7)) (Kd.S_lt (by (with_reducible repeat (first | apply Kd.S_alloc | apply Kd.S_drewN | apply Kd.S_drew)); exact HO212.out))) (Kd.R_lt (by (with_reducible repeat (first | apply Kd.R_alloc | apply Kd.R_drewN | apply Kd.R_drew)); exact HO215.out))) (Kd.R_lt (by (with_reducible repeat (first | apply Kd.R_alloc | apply Kd.R_drewN | apply Kd.R_drew)); exact HO218.out))) (Kd.R_lt (by (with_reducible repeat (first | apply Kd.R_alloc | apply Kd.R_drewN | apply Kd.R_drew)); exact HO221.out))) (below_size qz2)); have n9_ := Aside0.mk (below_step qz2 hb); clear HO199; clear HO202; clear HO205; clear HO208; clear HO212; clear HO215; clear HO218; clear HO221; clear HB; have HO199 := n0_; have HO202 := n1_; have HO205 := n2_; have HO208 := n3_; have HO212 := n4_; have HO215 := n5_; have HO218 := n6_; have HO221 := n7_; have HO225 := n8_; have HB := n9_; clear n0_ n1_ n2_ n3_ n4_ n5_ n6_ n7_ n8_ n9_; (try clear hb); (try clear hb2); (try clear hk); (try clear hi); (try clear ho0); obtain ⟨Ao51, co51, eo51⟩ := Kd.S_slice HO225.out; subst eo51) | ((with_reducible refine gate_callee (f := 42) rfl ?_); refine goesL_ (some 58) rfl rfl Try.func42 (by kernel_rfl) rfl #[.slice Ao46 t210.length co46, .slice Ao51 t223.length co51] rfl qz3 ?_; (with_reducible refine (laws_eqIntSS.calls k _ _ t210 _ _ t223 true _ ?side1 ?side2 ?side3 ?side4 A22.out).mono ?_); (case side1 => repeat (first | exact (Kd.S_reads' HO212.out).2.2 | (with_reducible refine Kd.C_alloc ?_ _) | (with_reducible refine Kd.C_drewN ?_ _) | (with_reducible refine Kd.C_drew ?_))); (case side2 => exact (Kd.S_reads' HO212.out).2.1); (case side3 => repeat (first | exact (Kd.S_reads' HO225.out).2.2 | (with_reducible refine Kd.C_alloc ?_ _) | (with_reducible refine Kd.C_drewN ?_ _) | (with_reducible refine Kd.C_drew ?_))); (case side4 => exact (Kd.S_reads' HO225.out).2.1); rintro e w' ⟨rfl, ⟨nd, rfl⟩⟩; refine ⟨_, rfl, ?_⟩) | ((with_reducible refine gate_callee (f := 40) rfl ?_); refine goesL_ (some 62) rfl rfl Try.func40 (by kernel_rfl) rfl #[.slice A1 l1.length c1] rfl qz3 ?_; (with_reducible refine (laws_toIntS.calls k _ _ l1 t227 _ ?side1 ?side2 A24.out).mono ?_); (case side1 => repeat (first | exact (Kd.C_below HR1.out qz2) | (with_reducible refine Kd.C_alloc ?_ _) | (with_reducible refine Kd.C_drewN ?_ _) | (with_reducible refine Kd.C_drew ?_))); (case side2 => exact HC1.out); rintro e w52 ⟨v228, rfl, ho0, hb⟩; refine ⟨_, rfl, ?_⟩; have n0_ := Aside0.mk (Kd.S_elder' (by (with_reducible repeat (first | apply Kd.S_alloc | apply Kd.S_drewN | apply Kd.S_drew)); exact HO199.out) (Kd.R_base ho0) hb); have n1_ := Aside0.mk (Kd.R_elder' qz5 (Kd.R_base ho0) hb); have n2_ := Aside0.mk (Kd.R_elder' qz6 (Kd.R_base ho0) hb); have n3_ := Aside0.mk (Kd.R_elder' qz7 (Kd.R_base ho0) hb); have n4_ := Aside0.mk (Kd.S_elder' (by (with_reducible repeat (first | apply Kd.S_alloc | apply Kd.S_drewN | apply Kd.S_drew)); exact HO212.out) (Kd.R_base ho0) hb); have n5_ := Aside0.mk (Kd.R_elder' (by (with_reducible repeat (first | apply Kd.R_alloc | apply Kd.R_drewN | apply Kd.R_drew)); exact HO215.out) (Kd.R_base ho0) hb); have n6_ := Aside0.mk (Kd.R_elder' (by (with_reducible repeat (first | apply Kd.R_alloc | apply Kd.R_drewN | apply Kd.R_drew)); exact HO218.out) (Kd.R_base ho0) hb); have n7_ := Aside0.mk (Kd.R_elder' (by (with_reducible repeat (first | apply Kd.R_alloc | apply Kd.R_drewN | apply Kd.R_drew)); exact HO221.out) (Kd.R_base ho0) hb); have n8_ := Aside0.mk (Kd.S_elder' (by (with_reducible repeat (first | apply Kd.S_alloc | apply Kd.S_drewN | apply Kd.S_drew)); exact HO225.out) (Kd.R_base ho0) hb); have n9_ := Aside0.mk (Kd.R_lower (Kd.R_new' (Kd.R_new' (Kd.R_new' (Kd.R_new' (Kd.R_new' (Kd.R_new' ho0 (Kd.R_lt qz5)) (Kd.R_lt qz6)) (Kd.R_lt qz7)) (Kd.R_lt (by (with_reducible repeat (first | apply Kd.R_alloc | apply Kd.R_drewN | apply Kd.R_drew)); exact HO215.out))) (Kd.R_lt (by (with_reducible repeat (first | apply Kd.R_alloc | apply Kd.R_drewN | apply Kd.R_drew)); exact HO218.out))) (Kd.R_lt (by (with_reducible repeat (first | apply Kd.R_alloc | apply Kd.R_drewN | apply Kd.R_drew)); exact HO221.out))) (below_size qz2)); have n10_ := Aside0.mk (below_step qz2 hb); clear HO199; clear HO202; clear HO205; clear HO208; clear HO212; clear HO215; clear HO218; clear HO221; clear HO225; clear HB; have HO199 := n0_; have HO202 := n1_; have HO205 := n2_; have HO208 := n3_; have HO212 := n4_; have HO215 := n5_; have HO218 := n6_; have HO221 := n7_; have HO225 := n8_; have HO229 := n9_; have HB := n10_; clear n0_ n1_ n2_ n3_ n4_ n5_ n6_ n7_ n8_ n9_ n10_; (try clear hb); (try clear hb2); (try clear hk); (try clear hi); (try clear ho0); obtain ⟨Ao53, co53, eo53⟩ := Kd.R_slice HO229.out; subst eo53) | ((with_reducible refine gate_callee (f := 26) rfl ?_); refine goesL_ (some 63) rfl rfl Try.func26 (by kernel_rfl) rfl #[.slice Ao47 t213.length co47, .slice Ao53 t227.length co53] rfl qz3 ?_; (with_reducible refine (laws_eqIntS.calls k _ _ t213 _ _ t227 true _ ?side1 ?side2 ?side3 ?side4 A25.out).mono ?_); (case side1 => repeat (first | exact (Kd.R_reads' HO215.out).2.2 | (with_reducible refine Kd.C_alloc ?_ _) | (with_reducible refine Kd.C_drewN ?_ _) | (with_reducible refine Kd.C_drew ?_))); (case side2 => exact (Kd.R_reads' HO215.out).2.1); (case side3 => repeat (first | exact (Kd.R_reads' HO229.out).2.2 | (with_reducible refine Kd.C_alloc ?_ _) | (with_reducible refine Kd.C_drewN ?_ _) | (with_reducible refine Kd.C_drew ?_))); (case side4 => exact (Kd.R_reads' HO229.out).2.1); rintro e w' ⟨rfl, ⟨nd, rfl⟩⟩; refine ⟨_, rfl, ?_⟩) | ((with_reducible refine gate_callee (f := 40) rfl ?_); refine goesL_ (some 67) rfl rfl Try.func40 (by kernel_rfl) rfl #[.slice A2 l2.length c2] rfl qz3 ?_; (with_reducible refine (laws_toIntS.calls k _ _ l2 t231 _ ?side1 ?side2 A27.out).mono ?_); (case side1 => repeat (first | exact (Kd.C_below HR2.out qz2) | (with_reducible refine Kd.C_alloc ?_ _) | (with_reducible refine Kd.C_drewN ?_ _) | (with_reducible refine Kd.C_drew ?_))); (case side2 => exact HC2.out); rintro e w54 ⟨v232, rfl, ho0, hb⟩; refine ⟨_, rfl, ?_⟩; have n0_ := Aside0.mk (Kd.S_elder' (by (with_reducible repeat (first | apply Kd.S_alloc | apply Kd.S_drewN | apply Kd.S_drew)); exact HO199.out) (Kd.R_base ho0) hb); have n1_ := Aside0.mk (Kd.R_elder' qz5 (Kd.R_base ho0) hb); have n2_ := Aside0.mk (Kd.R_elder' qz6 (Kd.R_base ho0) hb); have n3_ := Aside0.mk (Kd.R_elder' qz7 (Kd.R_base ho0) hb); have n4_ := Aside0.mk (Kd.S_elder' (by (with_reducible repeat (first | apply Kd.S_alloc | apply Kd.S_drewN | apply Kd.S_drew)); exact HO212.out) (Kd.R_base ho0) hb); have n5_ := Aside0.mk (Kd.R_elder' (by (with_reducible repeat (first | apply Kd.R_alloc | apply Kd.R_drewN | apply Kd.R_drew)); exact HO215.out) (Kd.R_base ho0) hb); have n6_ := Aside0.mk (Kd.R_elder' (by (with_reducible repeat (first | apply Kd.R_alloc | apply Kd.R_drewN | apply Kd.R_drew)); exact HO218.out) (Kd.R_base ho0) hb); have n7_ := Aside0.mk (Kd.R_elder' (by (with_reducible repeat (first | apply Kd.R_alloc | apply Kd.R_drewN | apply Kd.R_drew)); exact HO221.out) (Kd.R_base ho0) hb); have n8_ := Aside0.mk (Kd.S_elder' (by (with_reducible repeat (first | apply Kd.S_alloc | apply Kd.S_drewN | apply Kd.S_drew)); exact HO225.out) (Kd.R_base ho0) hb); have n9_ := Aside0.mk (Kd.R_elder' (by (with_reducible repeat (first | apply Kd.R_alloc | apply Kd.R_drewN | apply Kd.R_drew)); exact HO229.out) (Kd.R_base ho0) hb); have n10_ := Aside0.mk (Kd.R_lower (Kd.R_new' (Kd.R_new' (Kd.R_new' (Kd.R_new' (Kd.R_new' (Kd.R_new' (Kd.R_new' ho0 (Kd.R_lt qz5)) (Kd.R_lt qz6)) (Kd.R_lt qz7)) (Kd.R_lt (by (with_reducible repeat (first | apply Kd.R_alloc | apply Kd.R_drewN | apply Kd.R_drew)); exact HO215.out))) (Kd.R_lt (by (with_reducible repeat (first | apply Kd.R_alloc | apply Kd.R_drewN | apply Kd.R_drew)); exact HO218.out))) (Kd.R_lt (by (with_reducible repeat (first | apply Kd.R_alloc | apply Kd.R_drewN | apply Kd.R_drew)); exact HO221.out))) (Kd.R_lt (by (with_reducible repeat (first | apply Kd.R_alloc | apply Kd.R_drewN | apply Kd.R_drew)); exact HO229.out))) (below_size qz2)); have n11_ := Aside0.mk (below_step qz2 hb); clear HO199; clear HO202; clear HO205; clear HO208; clear HO212; clear HO215; clear HO218; clear HO221; clear HO225; clear HO229; clear HB; have HO199 := n0_; have HO202 := n1_; have HO205 := n2_; have HO208 := n3_; have HO212 := n4_; have HO215 := n5_; have HO218 := n6_; have HO221 := n7_; have HO225 := n8_; have HO229 := n9_; have HO233 := n10_; have HB := n11_; clear n0_ n1_ n2_ n3_ n4_ n5_ n6_ n7_ n8_ n9_ n10_ n11_; (try clear hb); (try clear hb2); (try clear hk); (try clear hi); (try clear ho0); obtain ⟨Ao55, co55, eo55⟩ := Kd.R_slice HO233.out; subst eo55) | ((with_reducible refine gate_callee (f := 26) rfl ?_); refine goesL_ (some 68) rfl rfl Try.func26 (by kernel_rfl) rfl #[.slice Ao48 t216.length co48, .slice Ao55 t231.length co55] rfl qz3 ?_; (with_reducible refine (laws_eqIntS.calls k _ _ t216 _ _ t231 true _ ?side1 ?side2 ?side3 ?side4 A28.out).mono ?_); (case side1 => repeat (first | exact (Kd.R_reads' HO218.out).2.2 | (with_reducible refine Kd.C_alloc ?_ _) | (with_reducible refine Kd.C_drewN ?_ _) | (with_reducible refine Kd.C_drew ?_))); (case side2 => exact (Kd.R_reads' HO218.out).2.1); (case side3 => repeat (first | exact (Kd.R_reads' HO233.out).2.2 | (with_reducible refine Kd.C_alloc ?_ _) | (with_reducible refine Kd.C_drewN ?_ _) | (with_reducible refine Kd.C_drew ?_))); (case side4 => exact (Kd.R_reads' HO233.out).2.1); rintro e w' ⟨rfl, ⟨nd, rfl⟩⟩; refine ⟨_, rfl, ?_⟩) | ((with_reducible refine gate_callee (f := 40) rfl ?_); refine goesL_ (some 72) rfl rfl Try.func40 (by kernel_rfl) rfl #[.slice A3 l3.length c3] rfl qz3 ?_; (with_reducible refine (laws_toIntS.calls k _ _ l3 t235 _ ?side1 ?side2 A30.out).mono ?_); (case side1 => repeat (first | exact (Kd.C_below HR3.out qz2) | (with_reducible refine Kd.C_alloc ?_ _) | (with_reducible refine Kd.C_drewN ?_ _) | (with_reducible refine Kd.C_drew ?_))); (case side2 => exact HC3.out); rintro e w56 ⟨v236, rfl, ho0, hb⟩; refine ⟨_, rfl, ?_⟩; have n0_ := Aside0.mk (Kd.S_elder' (by (with_reducible repeat (first | apply Kd.S_alloc | apply Kd.S_drewN | apply Kd.S_drew)); exact HO199.out) (Kd.R_base ho0) hb); have n1_ := Aside0.mk (Kd.R_elder' qz5 (Kd.R_base ho0) hb); have n2_ := Aside0.mk (Kd.R_elder' qz6 (Kd.R_base ho0) hb); have n3_ := Aside0.mk (Kd.R_elder' qz7 (Kd.R_base ho0) hb); have n4_ := Aside0.mk (Kd.S_elder' (by (with_reducible repeat (first | apply Kd.S_alloc | apply Kd.S_drewN | apply Kd.S_drew)); exact HO212.out) (Kd.R_base ho0) hb); have n5_ := Aside0.mk (Kd.R_elder' (by (with_reducible repeat (first | apply Kd.R_alloc | apply Kd.R_drewN | apply Kd.R_drew)); exact HO215.out) (Kd.R_base ho0) hb); have n6_ := Aside0.mk (Kd.R_elder' (by (with_reducible repeat (first | apply Kd.R_alloc | apply Kd.R_drewN | apply Kd.R_drew)); exact HO218.out) (Kd.R_base ho0) hb); have n7_ := Aside0.mk (Kd.R_elder' (by (with_reducible repeat (first | apply Kd.R_alloc | apply Kd.R_drewN | apply Kd.R_drew)); exact HO221.out) (Kd.R_base ho0) hb); have n8_ := Aside0.mk (Kd.S_elder' (by (with_reducible repeat (first | apply Kd.S_alloc | apply Kd.S_drewN | apply Kd.S_drew)); exact HO225.out) (Kd.R_base ho0) hb); have n9_ := Aside0.mk (Kd.R_elder' (by (with_reducible repeat (first | apply Kd.R_alloc | apply Kd.R_drewN | apply Kd.R_drew)); exact HO229.out) (Kd.R_base ho0) hb); have n10_ := Aside0.mk (Kd.R_elder' (by (with_reducible repeat (first | apply Kd.R_alloc | apply Kd.R_drewN | apply Kd.R_drew)); exact HO233.out) (Kd.R_base ho0) hb); have n11_ := Aside0.mk (Kd.R_lower (Kd.R_new' (Kd.R_new' (Kd.R_new' (Kd.R_new' (Kd.R_new' (Kd.R_new' (Kd.R_new' (Kd.R_new' ho0 (Kd.R_lt qz5)) (Kd.R_lt qz6)) (Kd.R_lt qz7)) (Kd.R_lt (by (with_reducible repeat (first | apply Kd.R_alloc | apply Kd.R_drewN | apply Kd.R_drew)); exact HO215.out))) (Kd.R_lt (by (with_reducible repeat (first | apply Kd.R_alloc | apply Kd.R_drewN | apply Kd.R_drew)); exact HO218.out))) (Kd.R_lt (by (with_reducible repeat (first | apply Kd.R_alloc | apply Kd.R_drewN | apply Kd.R_drew)); exact HO221.out))) (Kd.R_lt (by (with_reducible repeat (first | apply Kd.R_alloc | apply Kd.R_drewN | apply Kd.R_drew)); exact HO229.out))) (Kd.R_lt (by (with_reducible repeat (first | apply Kd.R_alloc | apply Kd.R_drewN | apply Kd.R_drew)); exact HO233.out))) (below_size qz2)); have n12_ := Aside0.mk (below_step qz2 hb); clear HO199; clear HO202; clear HO205; clear HO208; clear HO212; clear HO215; clear HO218; clear HO221; clear HO225; clear HO229; clear HO233; clear HB; have HO199 := n0_; have HO202 := n1_; have HO205 := n2_; have HO208 := n3_; have HO212 := n4_; have HO215 := n5_; have HO218 := n6_; have HO221 := n7_; have HO225 := n8_; have HO229 := n9_; have HO233 := n10_; have HO237 := n11_; have HB := n12_; clear n0_ n1_ n2_ n3_ n4_ n5_ n6_ n7_ n8_ n9_ n10_ n11_ n12_; (try clear hb); (try clear hb2); (try clear hk); (try clear hi); (try clear ho0); obtain ⟨Ao57, co57, eo57⟩ := Kd.R_slice HO237.out; subst eo57) | ((with_reducible refine gate_callee (f := 26) rfl ?_); refine goesL_ (some 73) rfl rfl Try.func26 (by kernel_rfl) rfl #[.slice Ao49 t219.length co49, .slice Ao57 t235.length co57] rfl qz3 ?_; (with_reducible refine (laws_eqIntS.calls k _ _ t219 _ _ t235 true _ ?side1 ?side2 ?side3 ?side4 A31.out).mono ?_); (case side1 => repeat (first | exact (Kd.R_reads' HO221.out).2.2 | (with_reducible refine Kd.C_alloc ?_ _) | (with_reducible refine Kd.C_drewN ?_ _) | (with_reducible refine Kd.C_drew ?_))); (case side2 => exact (Kd.R_reads' HO221.out).2.1); (case side3 => repeat (first | exact (Kd.R_reads' HO237.out).2.2 | (with_reducible refine Kd.C_alloc ?_ _) | (with_reducible refine Kd.C_drewN ?_ _) | (with_reducible refine Kd.C_drew ?_))); (case side4 => exact (Kd.R_reads' HO237.out).2.1); rintro e w' ⟨rfl, ⟨nd, rfl⟩⟩; refine ⟨_, rfl, ?_⟩))
  go_ret
  exact ⟨by first | rfl | (simp [errW_none, errW_some] <;> rfl) | (simp [*, errW_none, errW_some] <;> rfl), by repeat (first | (with_reducible first | exact HB.out | apply below_alloc | apply pw_below_drewN | apply below_drew1) | exact HB.out)⟩
  }
  {
  replace c32 := Bool.eq_false_iff.mpr c32
  subst c32
  have H1 : (some false) = some r := by rw [if_neg (show ¬ (false = true) by decide)] at H; exact H
  clear H
  have H := H1
  clear H1
  obtain rfl := Option.some.inj H
  exact absurd HTR_.out (by decide)
  }
  }
  {
  replace c29 := Bool.eq_false_iff.mpr c29
  subst c29
  have H1 : (some false) = some r := by rw [if_neg (show ¬ (false = true) by decide)] at H; exact H
  clear H
  have H := H1
  clear H1
  obtain rfl := Option.some.inj H
  exact absurd HTR_.out (by decide)
  }
  }
  {
  replace c26 := Bool.eq_false_iff.mpr c26
  subst c26
  have H1 : (some false) = some r := by rw [if_neg (show ¬ (false = true) by decide)] at H; exact H
  clear H
  have H := H1
  clear H1
  obtain rfl := Option.some.inj H
  exact absurd HTR_.out (by decide)
  }
  }
  {
  replace c23 := Bool.eq_false_iff.mpr c23
  subst c23
  have H1 : (some false) = some r := by rw [if_neg (show ¬ (false = true) by decide)] at H; exact H
  clear H
  have H := H1
  clear H1
  obtain rfl := Option.some.inj H
  exact absurd HTR_.out (by decide)

  }
  }
  }
  }
  }
  }
end Go.Proofs.Ytjeonneegmhcdaa.PFnExactProves
