/- The row of the law FnExactTurns, out of its pure statement and the printed walk: for every input the law returns true, and its arguments read as they did. No condition. -/
import Derived.Test.YtankmdbbgepmbaaRows
import Derived.Test.YtankmdbbgepmbaaPFnExactTurnsx4
import Derived.Test.YtankmdbbgepmbaaPureFnExactTurns
import Derived.Test.YtankmdbbgepmbaaOFnExactTurns
import Derived.WalkKit
import Derived.ProofKit
import Derived.OpenShut
import Derived.ShutString
import Derived.ChangeOld
import Derived.Below
import Derived.SizedLaws
import Derived.Carry
namespace Go.Proofs.Ytankmdbbgepmbaa.fnExactTurns
open Go.ChangeShapes Go.WideShapes Go.ChangeAt Go.RowKit
open Go.ChangeMaps (open_string shut_string)
open Go.Proofs.Ytankmdbbgepmbaa.Open Go.Proofs.Ytankmdbbgepmbaa.PFnExactTurns Go.Proofs.YtankmdbbgepmbaaW.PrintWords
set_option linter.unusedVariables false
theorem own : ownKnob Try.prog.godebug = none := by kernel_rfl
theorem laidOut : laidOutB Try.prog = true := by kernel_rfl
set_option maxRecDepth 100000 in
theorem open0 : Opens Try.prog 22 (Kd.slice 40 k40) (fun x => (x.length ≤ 9223372036854775807 ∧ ∀ y0 ∈ x, ((-9223372036854775808 ≤ y0.f0 ∧ y0.f0 ≤ 9223372036854775807) ∧ (-9223372036854775808 ≤ y0.f1 ∧ y0.f1 ≤ 9223372036854775807) ∧ (-9223372036854775808 ≤ y0.f2 ∧ y0.f2 ≤ 9223372036854775807) ∧ True ∧ (-9223372036854775808 ≤ y0.f4 ∧ y0.f4 ≤ 9223372036854775807)))) :=
  (opens_slice Try.underlying22 (by kernel_rfl) (opens_struct (fun x : S40 => (x.f0, x.f1, x.f2, x.f3, x.f4)) (fun a => ⟨a.1, a.2.1, a.2.2.1, a.2.2.2.1, a.2.2.2.2⟩) (fun _ => rfl) Try.underlying40 (by kernel_rfl) (opensF_cons rfl (by kernel_rfl) rfl (opens_i64 Try.underlying3) (opensF_cons rfl (by kernel_rfl) rfl (opens_i64 Try.underlying3) (opensF_cons rfl (by kernel_rfl) rfl (opens_i64 Try.underlying3) (opensF_cons rfl (by kernel_rfl) rfl (opens_bool Try.underlying4) (opensF_one rfl (by kernel_rfl) (opens_i64 Try.underlying3))))))))
set_option maxRecDepth 100000 in
theorem lifted (os : Os) (started : os.Started) (H : Type) (enc : TypeId × Value → H) :
    ReturnsInHanded {} Try.checked os 3 .any (Rows.fnExactTurnsSpec.pre6 enc Try.prog Try.f3 Rows.fnExactTurnsRow.domain false) (Rows.fnExactTurnsSpec.post enc Try.prog Try.f3 false true false false) := by
  refine returnsInHanded_of_change_sized (C := Try.checked) own started (by kernel_rfl) Try.func3
    (ChangeSpec.witness6 (enc := enc) (C := Try.checked) false ⟨#[], #[.slice none 0 0], []⟩ 8 (by kernel_rfl) (by kernel_rfl) (by kernel_rfl) (by kernel_rfl)) ?_
  intro W base args ds gs before hval0 hW hcnd hsz0 _
  have hval : ∀ (j : Nat) t v, Try.f3.params[j]? = some t → args[j]? = some v → Value.okWide Try.prog W .any base t v := hval0
  have hW' := hW
  obtain ⟨p, q, hA0, hV, rfl, hfz, hnd⟩ := hW
  have hA : DataW.TrodAll enc Try.prog W 0 (fun _ => true) true Try.f3.params.toList args.toList ds p := hA0
  rw [Try.params3] at hA hval
  obtain ⟨v0, vs0, d0, ds0, p0, q0, hargs, rfl, rfl, h0, r0⟩ := trodAll_cons hA
  obtain ⟨rfl, rfl, rfl⟩ := trodAll_nil r0
  obtain rfl : args = #[v0] := by cases args; simp_all
  obtain ⟨rfl, rfl⟩ := trodVars_none hV
  have k0 := h0
  have lt0 : ∀ x ∈ p0, x.block < W.heap.size := by obtain ⟨m, hm⟩ := k0; exact DataW.trod_lt m _ _ _ hm
  obtain ⟨a0, len0, cap0, rfl⟩ := okWide_slice Try.underlying22 (hval 0 22 v0 rfl rfl)
  obtain ⟨x0, hK0, hF0⟩ := Trod_opens open0 h0
  have hK0' : Kd.K (Kd.slice 40 k40) W x0 [.slice a0 len0 cap0] := hK0
  clear hK0
  obtain ⟨A0, c0, e0, hc0, hr0⟩ := hK0'
  simp only [List.cons.injEq, and_true, Value.slice.injEq] at e0
  obtain ⟨rfl, rfl, rfl⟩ := e0
  clear hA0 hval0 hsz0
  obtain ⟨k, hP⟩ := Pure.FnExactTurns x0 hF0
  refine (laws_FnExactTurns.calls (r := true) (w := W) (hr0 := hr0) (hc0 := hc0) (hT := rfl) (h := hP)).mono fun e W' hh => ?_
  obtain ⟨he, bel0⟩ := hh
  have bel : Below W.heap.size W W' := by first | exact bel0 | (obtain ⟨nd, rfl⟩ := bel0; exact pw_below_drewN (Below.refl _ _) nd)
  subst he
  exact ⟨_, rfl, _, _, _, [], _, [], hW', trodAll_mk1 (shut_bool Try.underlying4 _), (trodAll_cons_mk (Below.trod laidOut (by kernel_rfl) (of_decide_eq_true (by kernel_rfl)) k0 bel lt0) trodAll_mk0), rfl, bel.frame _, fun h => by cases h⟩
theorem over : Rows.fnExactTurnsRow.holds Try.pinned (OpenSpec.ofChange Rows.fnExactTurnsSpec) :=
  OpenClaim.holds_of_wide 3 Try.f3 rfl rfl rfl rfl rfl rfl rfl ⟨rfl, rfl, rfl, rfl, rfl⟩ rfl rfl rfl rfl rfl (by kernel_rfl) Try.func3 (by kernel_rfl)
    (of_decide_eq_true (by kernel_rfl)) (by unfold Func.isWrapper; first | (rw [if_pos (by decide +kernel)]; kernel_rfl) | (rw [if_neg (by decide +kernel)]; exact ⟨rfl, rfl⟩))
    (fun os started H enc _ => lifted os started H enc)
theorem proved : Rows.FnExactTurnsSaid := over
#print axioms proved
end Go.Proofs.Ytankmdbbgepmbaa.fnExactTurns
namespace Go.Proofs.Ytankmdbbgepmbaa
/-- The row, under a short name, for the claim. -/
theorem fnExactTurns_holds : Rows.FnExactTurnsSaid := fnExactTurns.proved
end Go.Proofs.Ytankmdbbgepmbaa
