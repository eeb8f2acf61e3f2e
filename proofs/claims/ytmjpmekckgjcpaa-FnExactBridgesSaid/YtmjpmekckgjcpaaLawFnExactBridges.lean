/- The row of the law FnExactBridges, out of its pure statement and the printed walk: for every input the law returns true, and its arguments read as they did. No condition. -/
import Derived.Test.YtmjpmekckgjcpaaRows
import Derived.Test.YtmjpmekckgjcpaaPFnExactBridgesx10
import Derived.Test.YtmjpmekckgjcpaaPureFnExactBridges
import Derived.Test.YtmjpmekckgjcpaaOFnExactBridges
import Derived.WalkKit
import Derived.ProofKit
import Derived.OpenShut
import Derived.ShutString
import Derived.ChangeOld
import Derived.Below
import Derived.SizedLaws
import Derived.Carry
namespace Go.Proofs.Ytmjpmekckgjcpaa.fnExactBridges
open Go.ChangeShapes Go.WideShapes Go.ChangeAt Go.RowKit
open Go.ChangeMaps (open_string shut_string)
open Go.Proofs.Ytmjpmekckgjcpaa.Open Go.Proofs.Ytmjpmekckgjcpaa.PFnExactBridges Go.Proofs.YtmjpmekckgjcpaaW.PrintWords
set_option linter.unusedVariables false
theorem own : ownKnob Try.prog.godebug = none := by kernel_rfl
theorem laidOut : laidOutB Try.prog = true := by kernel_rfl
set_option maxRecDepth 100000 in
theorem open0 : Opens Try.prog 24 (Kd.pair (Kd.int .i64) (Kd.pair (Kd.int .i64) (Kd.slice 3 (Kd.int .i64)))) (fun x => (-9223372036854775808 ≤ x.1 ∧ x.1 ≤ 9223372036854775807) ∧ (-9223372036854775808 ≤ x.2.1 ∧ x.2.1 ≤ 9223372036854775807) ∧ (x.2.2.length ≤ 9223372036854775807 ∧ ∀ y0 ∈ x.2.2, (-9223372036854775808 ≤ y0 ∧ y0 ≤ 9223372036854775807))) :=
  opens_fields Try.underlying24 (by kernel_rfl) (opensF_cons rfl (by kernel_rfl) rfl (opens_i64 Try.underlying3) (opensF_cons rfl (by kernel_rfl) rfl (opens_i64 Try.underlying3) (opensF_one rfl (by kernel_rfl) (opens_slice Try.underlying22 (by kernel_rfl) (opens_i64 Try.underlying3)))))
set_option maxRecDepth 100000 in
theorem lifted (os : Os) (started : os.Started) (H : Type) (enc : TypeId × Value → H) :
    ReturnsInHanded {} Try.checked os 13 .any (Rows.fnExactBridgesSpec.pre6 enc Try.prog Try.f13 Rows.fnExactBridgesRow.domain false) (Rows.fnExactBridgesSpec.post enc Try.prog Try.f13 false true false false) := by
  refine returnsInHanded_of_change_sized (C := Try.checked) own started (by kernel_rfl) Try.func13
    (ChangeSpec.witness6 (enc := enc) (C := Try.checked) false ⟨#[], #[.agg #[.int .i64 0, .int .i64 0, .slice none 0 0]], []⟩ 8 (by kernel_rfl) (by kernel_rfl) (by kernel_rfl) (by kernel_rfl)) ?_
  intro W base args ds gs before hval0 hW hcnd hsz0 _
  have hval : ∀ (j : Nat) t v, Try.f13.params[j]? = some t → args[j]? = some v → Value.okWide Try.prog W .any base t v := hval0
  have hW' := hW
  obtain ⟨p, q, hA0, hV, rfl, hfz, hnd⟩ := hW
  have hA : DataW.TrodAll enc Try.prog W 0 (fun _ => true) true Try.f13.params.toList args.toList ds p := hA0
  rw [Try.params13] at hA hval
  obtain ⟨v0, vs0, d0, ds0, p0, q0, hargs, rfl, rfl, h0, r0⟩ := trodAll_cons hA
  obtain ⟨rfl, rfl, rfl⟩ := trodAll_nil r0
  obtain rfl : args = #[v0] := by cases args; simp_all
  obtain ⟨rfl, rfl⟩ := trodVars_none hV
  have k0 := h0
  have lt0 : ∀ x ∈ p0, x.block < W.heap.size := by obtain ⟨m, hm⟩ := k0; exact DataW.trod_lt m _ _ _ hm
  obtain ⟨cs0, rfl, _⟩ := okWide_struct Try.underlying24 (hval 0 24 v0 rfl rfl)
  obtain ⟨x0, hK0, hF0⟩ := Trod_opens open0 h0
  obtain ⟨x0_0, x0_1, x0_2⟩ := x0
  have hK0' : Kd.K (Kd.pair (Kd.int .i64) (Kd.pair (Kd.int .i64) (Kd.slice 3 (Kd.int .i64)))) W (x0_0, x0_1, x0_2) cs0.toList := hK0
  clear hK0
  obtain ⟨cs0⟩ := cs0
  have hK0 : Kd.K (Kd.pair (Kd.int .i64) (Kd.pair (Kd.int .i64) (Kd.slice 3 (Kd.int .i64)))) W (x0_0, x0_1, x0_2) cs0 := hK0'
  clear hK0'
  obtain ⟨_, _, rfl, rfl, ⟨_, _, rfl, rfl, ⟨A0_2, c0_2, rfl, hc0_2, hr0_2⟩⟩⟩ := hK0
  obtain ⟨hF0_0, hF0_1, hF0_2⟩ := hF0
  clear hA0 hval0 hsz0
  obtain ⟨k, hP⟩ := Pure.FnExactBridges x0_0 x0_1 x0_2 hF0_0 hF0_1 hF0_2
  refine (laws_FnExactBridges.calls (r := true) (w := W) (hr0_2 := hr0_2) (hc0_2 := hc0_2) (hT := rfl) (h := hP)).mono fun e W' hh => ?_
  obtain ⟨he, bel0⟩ := hh
  have bel : Below W.heap.size W W' := by first | exact bel0 | (obtain ⟨nd, rfl⟩ := bel0; exact pw_below_drewN (Below.refl _ _) nd)
  subst he
  exact ⟨_, rfl, _, _, _, [], _, [], hW', trodAll_mk1 (shut_bool Try.underlying4 _), (trodAll_cons_mk (Below.trod laidOut (by kernel_rfl) (of_decide_eq_true (by kernel_rfl)) k0 bel lt0) trodAll_mk0), rfl, bel.frame _, fun h => by cases h⟩
theorem over : Rows.fnExactBridgesRow.holds Try.pinned (OpenSpec.ofChange Rows.fnExactBridgesSpec) :=
  OpenClaim.holds_of_wide 13 Try.f13 rfl rfl rfl rfl rfl rfl rfl ⟨rfl, rfl, rfl, rfl, rfl⟩ rfl rfl rfl rfl rfl (by kernel_rfl) Try.func13 (by kernel_rfl)
    (of_decide_eq_true (by kernel_rfl)) (by unfold Func.isWrapper; first | (rw [if_pos (by decide +kernel)]; kernel_rfl) | (rw [if_neg (by decide +kernel)]; exact ⟨rfl, rfl⟩))
    (fun os started H enc _ => lifted os started H enc)
theorem proved : Rows.FnExactBridgesSaid := over
#print axioms proved
end Go.Proofs.Ytmjpmekckgjcpaa.fnExactBridges
namespace Go.Proofs.Ytmjpmekckgjcpaa
/-- The row, under a short name, for the claim. -/
theorem fnExactBridges_holds : Rows.FnExactBridgesSaid := fnExactBridges.proved
end Go.Proofs.Ytmjpmekckgjcpaa
