/- The row of the law FnExactStep, out of its pure statement and the printed walk: for every input the law returns true, and its arguments read as they did. No condition. -/
import Derived.Test.YtankmdbbgepmbaaRows
import Derived.Test.YtankmdbbgepmbaaPFnExactStepx20
import Derived.Test.YtankmdbbgepmbaaPureFnExactStep
import Derived.Test.YtankmdbbgepmbaaOFnExactStep
import Derived.WalkKit
import Derived.ProofKit
import Derived.OpenShut
import Derived.ShutString
import Derived.ChangeOld
import Derived.Below
import Derived.SizedLaws
import Derived.Carry
namespace Go.Proofs.Ytankmdbbgepmbaa.fnExactStep
open Go.ChangeShapes Go.WideShapes Go.ChangeAt Go.RowKit
open Go.ChangeMaps (open_string shut_string)
open Go.Proofs.Ytankmdbbgepmbaa.Open Go.Proofs.Ytankmdbbgepmbaa.PFnExactStep Go.Proofs.YtankmdbbgepmbaaW.PrintWords
set_option linter.unusedVariables false
theorem own : ownKnob Try.prog.godebug = none := by kernel_rfl
theorem laidOut : laidOutB Try.prog = true := by kernel_rfl
set_option maxRecDepth 100000 in
theorem open0 : Opens Try.prog 39 (Kd.pair (Kd.int .i64) (Kd.pair (Kd.int .i64) (Kd.slice 3 (Kd.int .i64)))) (fun x => (-9223372036854775808 ≤ x.1 ∧ x.1 ≤ 9223372036854775807) ∧ (-9223372036854775808 ≤ x.2.1 ∧ x.2.1 ≤ 9223372036854775807) ∧ (x.2.2.length ≤ 9223372036854775807 ∧ ∀ y0 ∈ x.2.2, (-9223372036854775808 ≤ y0 ∧ y0 ≤ 9223372036854775807))) :=
  opens_fields Try.underlying39 (by kernel_rfl) (opensF_cons rfl (by kernel_rfl) rfl (opens_i64 Try.underlying3) (opensF_cons rfl (by kernel_rfl) rfl (opens_i64 Try.underlying3) (opensF_one rfl (by kernel_rfl) (opens_slice Try.underlying24 (by kernel_rfl) (opens_i64 Try.underlying3)))))
set_option maxRecDepth 100000 in
theorem open1 : Opens Try.prog 22 (Kd.slice 40 k40) (fun x => (x.length ≤ 9223372036854775807 ∧ ∀ y0 ∈ x, ((-9223372036854775808 ≤ y0.f0 ∧ y0.f0 ≤ 9223372036854775807) ∧ (-9223372036854775808 ≤ y0.f1 ∧ y0.f1 ≤ 9223372036854775807) ∧ (-9223372036854775808 ≤ y0.f2 ∧ y0.f2 ≤ 9223372036854775807) ∧ True ∧ (-9223372036854775808 ≤ y0.f4 ∧ y0.f4 ≤ 9223372036854775807)))) :=
  (opens_slice Try.underlying22 (by kernel_rfl) (opens_struct (fun x : S40 => (x.f0, x.f1, x.f2, x.f3, x.f4)) (fun a => ⟨a.1, a.2.1, a.2.2.1, a.2.2.2.1, a.2.2.2.2⟩) (fun _ => rfl) Try.underlying40 (by kernel_rfl) (opensF_cons rfl (by kernel_rfl) rfl (opens_i64 Try.underlying3) (opensF_cons rfl (by kernel_rfl) rfl (opens_i64 Try.underlying3) (opensF_cons rfl (by kernel_rfl) rfl (opens_i64 Try.underlying3) (opensF_cons rfl (by kernel_rfl) rfl (opens_bool Try.underlying4) (opensF_one rfl (by kernel_rfl) (opens_i64 Try.underlying3))))))))
set_option maxRecDepth 100000 in
theorem lifted (os : Os) (started : os.Started) (H : Type) (enc : TypeId × Value → H) :
    ReturnsInHanded {} Try.checked os 9 .any (Rows.fnExactStepSpec.pre6 enc Try.prog Try.f9 Rows.fnExactStepRow.domain false) (Rows.fnExactStepSpec.post enc Try.prog Try.f9 false true false false) := by
  refine returnsInHanded_of_change_sized (C := Try.checked) own started (by kernel_rfl) Try.func9
    (ChangeSpec.witness6 (enc := enc) (C := Try.checked) false ⟨#[], #[.agg #[.int .i64 0, .int .i64 0, .slice none 0 0], .slice none 0 0], []⟩ 8 (by kernel_rfl) (by kernel_rfl) (by kernel_rfl) (by kernel_rfl)) ?_
  intro W base args ds gs before hval0 hW hcnd hsz0 _
  have hval : ∀ (j : Nat) t v, Try.f9.params[j]? = some t → args[j]? = some v → Value.okWide Try.prog W .any base t v := hval0
  have hW' := hW
  obtain ⟨p, q, hA0, hV, rfl, hfz, hnd⟩ := hW
  have hA : DataW.TrodAll enc Try.prog W 0 (fun _ => true) true Try.f9.params.toList args.toList ds p := hA0
  rw [Try.params9] at hA hval
  obtain ⟨v0, vs0, d0, ds0, p0, q0, hargs, rfl, rfl, h0, r0⟩ := trodAll_cons hA
  obtain ⟨v1, vs1, d1, ds1, p1, q1, rfl, rfl, rfl, h1, r1⟩ := trodAll_cons r0
  obtain ⟨rfl, rfl, rfl⟩ := trodAll_nil r1
  obtain rfl : args = #[v0, v1] := by cases args; simp_all
  obtain ⟨rfl, rfl⟩ := trodVars_none hV
  have k0 := h0
  have lt0 : ∀ x ∈ p0, x.block < W.heap.size := by obtain ⟨m, hm⟩ := k0; exact DataW.trod_lt m _ _ _ hm
  obtain ⟨cs0, rfl, _⟩ := okWide_struct Try.underlying39 (hval 0 39 v0 rfl rfl)
  obtain ⟨x0, hK0, hF0⟩ := Trod_opens open0 h0
  obtain ⟨x0_0, x0_1, x0_2⟩ := x0
  have hK0' : Kd.K (Kd.pair (Kd.int .i64) (Kd.pair (Kd.int .i64) (Kd.slice 3 (Kd.int .i64)))) W (x0_0, x0_1, x0_2) cs0.toList := hK0
  clear hK0
  obtain ⟨cs0⟩ := cs0
  have hK0 : Kd.K (Kd.pair (Kd.int .i64) (Kd.pair (Kd.int .i64) (Kd.slice 3 (Kd.int .i64)))) W (x0_0, x0_1, x0_2) cs0 := hK0'
  clear hK0'
  obtain ⟨_, _, rfl, rfl, ⟨_, _, rfl, rfl, ⟨A0_2, c0_2, rfl, hc0_2, hr0_2⟩⟩⟩ := hK0
  obtain ⟨hF0_0, hF0_1, hF0_2⟩ := hF0
  have k1 := h1
  have lt1 : ∀ x ∈ p1, x.block < W.heap.size := by obtain ⟨m, hm⟩ := k1; exact DataW.trod_lt m _ _ _ hm
  obtain ⟨a1, len1, cap1, rfl⟩ := okWide_slice Try.underlying22 (hval 1 22 v1 rfl rfl)
  obtain ⟨x1, hK1, hF1⟩ := Trod_opens open1 h1
  have hK1' : Kd.K (Kd.slice 40 k40) W x1 [.slice a1 len1 cap1] := hK1
  clear hK1
  obtain ⟨A1, c1, e1, hc1, hr1⟩ := hK1'
  simp only [List.cons.injEq, and_true, Value.slice.injEq] at e1
  obtain ⟨rfl, rfl, rfl⟩ := e1
  clear hA0 hval0 hsz0
  obtain ⟨k, hP⟩ := Pure.FnExactStep x0_0 x0_1 x0_2 x1 hF0_0 hF0_1 hF0_2 hF1
  refine (laws_FnExactStep.calls (r := true) (w := W) (hr0_2 := hr0_2) (hc0_2 := hc0_2) (hr1 := hr1) (hc1 := hc1) (hT := rfl) (h := hP)).mono fun e W' hh => ?_
  obtain ⟨he, bel0⟩ := hh
  have bel : Below W.heap.size W W' := by first | exact bel0 | (obtain ⟨nd, rfl⟩ := bel0; exact pw_below_drewN (Below.refl _ _) nd)
  subst he
  exact ⟨_, rfl, _, _, _, [], _, [], hW', trodAll_mk1 (shut_bool Try.underlying4 _), (trodAll_cons_mk (Below.trod laidOut (by kernel_rfl) (of_decide_eq_true (by kernel_rfl)) k0 bel lt0) (trodAll_cons_mk (Below.trod laidOut (by kernel_rfl) (of_decide_eq_true (by kernel_rfl)) k1 bel lt1) trodAll_mk0)), rfl, bel.frame _, fun h => by cases h⟩
theorem over : Rows.fnExactStepRow.holds Try.pinned (OpenSpec.ofChange Rows.fnExactStepSpec) :=
  OpenClaim.holds_of_wide 9 Try.f9 rfl rfl rfl rfl rfl rfl rfl ⟨rfl, rfl, rfl, rfl, rfl⟩ rfl rfl rfl rfl rfl (by kernel_rfl) Try.func9 (by kernel_rfl)
    (of_decide_eq_true (by kernel_rfl)) (by unfold Func.isWrapper; first | (rw [if_pos (by decide +kernel)]; kernel_rfl) | (rw [if_neg (by decide +kernel)]; exact ⟨rfl, rfl⟩))
    (fun os started H enc _ => lifted os started H enc)
theorem proved : Rows.FnExactStepSaid := over
#print axioms proved
end Go.Proofs.Ytankmdbbgepmbaa.fnExactStep
namespace Go.Proofs.Ytankmdbbgepmbaa
/-- The row, under a short name, for the claim. -/
theorem fnExactStep_holds : Rows.FnExactStepSaid := fnExactStep.proved
end Go.Proofs.Ytankmdbbgepmbaa
