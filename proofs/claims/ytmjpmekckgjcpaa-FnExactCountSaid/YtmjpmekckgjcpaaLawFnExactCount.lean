/- The row of the law FnExactCount, out of its pure statement and the printed walk: for every input the law returns true, and its arguments read as they did. No condition. -/
import Derived.Test.YtmjpmekckgjcpaaRows
import Derived.Test.YtmjpmekckgjcpaaPFnExactCountx8
import Derived.Test.YtmjpmekckgjcpaaPureFnExactCount
import Derived.Test.YtmjpmekckgjcpaaOFnExactCount
import Derived.WalkKit
import Derived.ProofKit
import Derived.OpenShut
import Derived.ShutString
import Derived.ChangeOld
import Derived.Below
import Derived.SizedLaws
import Derived.Carry
namespace Go.Proofs.Ytmjpmekckgjcpaa.fnExactCount
open Go.ChangeShapes Go.WideShapes Go.ChangeAt Go.RowKit
open Go.ChangeMaps (open_string shut_string)
open Go.Proofs.Ytmjpmekckgjcpaa.Open Go.Proofs.Ytmjpmekckgjcpaa.PFnExactCount Go.Proofs.YtmjpmekckgjcpaaW.PrintWords
set_option linter.unusedVariables false
theorem own : ownKnob Try.prog.godebug = none := by kernel_rfl
theorem laidOut : laidOutB Try.prog = true := by kernel_rfl
set_option maxRecDepth 100000 in
theorem open0 : Opens Try.prog 33 (Kd.slice 118 k118) (fun x => (x.length ≤ 9223372036854775807 ∧ ∀ y0 ∈ x, ((-9223372036854775808 ≤ y0.f0 ∧ y0.f0 ≤ 9223372036854775807) ∧ (-9223372036854775808 ≤ y0.f1 ∧ y0.f1 ≤ 9223372036854775807) ∧ (y0.f2.length ≤ 9223372036854775807 ∧ ∀ y1 ∈ y0.f2, ((-9223372036854775808 ≤ y1.f0 ∧ y1.f0 ≤ 9223372036854775807) ∧ (-9223372036854775808 ≤ y1.f1 ∧ y1.f1 ≤ 9223372036854775807) ∧ (-9223372036854775808 ≤ y1.f2 ∧ y1.f2 ≤ 9223372036854775807)))))) :=
  opens_fields Try.underlying33 (by kernel_rfl) (opensF_one rfl (by kernel_rfl) (opens_slice Try.underlying31 (by kernel_rfl) (opens_struct (fun x : S118 => (x.f0, x.f1, x.f2)) (fun a => ⟨a.1, a.2.1, a.2.2⟩) (fun _ => rfl) Try.underlying118 (by kernel_rfl) (opensF_cons rfl (by kernel_rfl) rfl (opens_i64 Try.underlying3) (opensF_cons rfl (by kernel_rfl) rfl (opens_i64 Try.underlying3) (opensF_one rfl (by kernel_rfl) (opens_slice Try.underlying116 (by kernel_rfl) (opens_struct (fun x : S139 => (x.f0, x.f1, x.f2)) (fun a => ⟨a.1, a.2.1, a.2.2⟩) (fun _ => rfl) Try.underlying139 (by kernel_rfl) (opensF_cons rfl (by kernel_rfl) rfl (opens_i64 Try.underlying3) (opensF_cons rfl (by kernel_rfl) rfl (opens_i64 Try.underlying3) (opensF_one rfl (by kernel_rfl) (opens_i64 Try.underlying3))))))))))))
set_option maxRecDepth 100000 in
theorem lifted (os : Os) (started : os.Started) (H : Type) (enc : TypeId × Value → H) :
    ReturnsInHanded {} Try.checked os 4 .any (Rows.fnExactCountSpec.pre6 enc Try.prog Try.f4 Rows.fnExactCountRow.domain false) (Rows.fnExactCountSpec.post enc Try.prog Try.f4 false true false false) := by
  refine returnsInHanded_of_change_sized (C := Try.checked) own started (by kernel_rfl) Try.func4
    (ChangeSpec.witness6 (enc := enc) (C := Try.checked) false ⟨#[], #[.agg #[.slice none 0 0], .int .i64 0], []⟩ 8 (by kernel_rfl) (by kernel_rfl) (by kernel_rfl) (by kernel_rfl)) ?_
  intro W base args ds gs before hval0 hW hcnd hsz0 _
  have hval : ∀ (j : Nat) t v, Try.f4.params[j]? = some t → args[j]? = some v → Value.okWide Try.prog W .any base t v := hval0
  have hW' := hW
  obtain ⟨p, q, hA0, hV, rfl, hfz, hnd⟩ := hW
  have hA : DataW.TrodAll enc Try.prog W 0 (fun _ => true) true Try.f4.params.toList args.toList ds p := hA0
  rw [Try.params4] at hA hval
  obtain ⟨v0, vs0, d0, ds0, p0, q0, hargs, rfl, rfl, h0, r0⟩ := trodAll_cons hA
  obtain ⟨v1, vs1, d1, ds1, p1, q1, rfl, rfl, rfl, h1, r1⟩ := trodAll_cons r0
  obtain ⟨rfl, rfl, rfl⟩ := trodAll_nil r1
  obtain rfl : args = #[v0, v1] := by cases args; simp_all
  obtain ⟨rfl, rfl⟩ := trodVars_none hV
  have k0 := h0
  have lt0 : ∀ x ∈ p0, x.block < W.heap.size := by obtain ⟨m, hm⟩ := k0; exact DataW.trod_lt m _ _ _ hm
  obtain ⟨cs0, rfl, _⟩ := okWide_struct Try.underlying33 (hval 0 33 v0 rfl rfl)
  obtain ⟨x0, hK0, hF0⟩ := Trod_opens open0 h0
  obtain ⟨x0_0, rfl⟩ : ∃ y, y = x0 := ⟨_, rfl⟩
  have hK0' : Kd.K (Kd.slice 118 k118) W (x0_0) cs0.toList := hK0
  clear hK0
  obtain ⟨cs0⟩ := cs0
  have hK0 : Kd.K (Kd.slice 118 k118) W (x0_0) cs0 := hK0'
  clear hK0'
  obtain ⟨A0_0, c0_0, rfl, hc0_0, hr0_0⟩ := hK0
  have hF0_0 := hF0
  obtain ⟨a1, rfl, rfl, rfl, w1⟩ := open_int Try.underlying3 (hval 1 3 v1 rfl rfl) h1
  have hF1 := bounds_i64 w1
  clear hA0 hval0 hsz0
  obtain ⟨k, hP⟩ := Pure.FnExactCount x0_0 a1 hF0_0 hF1
  refine (laws_FnExactCount.calls (r := true) (w := W) (hr0_0 := hr0_0) (hc0_0 := hc0_0) (hT := rfl) (h := hP)).mono fun e W' hh => ?_
  obtain ⟨he, bel0⟩ := hh
  have bel : Below W.heap.size W W' := by first | exact bel0 | (obtain ⟨nd, rfl⟩ := bel0; exact pw_below_drewN (Below.refl _ _) nd)
  subst he
  exact ⟨_, rfl, _, _, _, [], _, [], hW', trodAll_mk1 (shut_bool Try.underlying4 _), (trodAll_cons_mk (Below.trod laidOut (by kernel_rfl) (of_decide_eq_true (by kernel_rfl)) k0 bel lt0) (trodAll_cons_mk (shut_int Try.underlying3 w1) trodAll_mk0)), rfl, bel.frame _, fun h => by cases h⟩
theorem over : Rows.fnExactCountRow.holds Try.pinned (OpenSpec.ofChange Rows.fnExactCountSpec) :=
  OpenClaim.holds_of_wide 4 Try.f4 rfl rfl rfl rfl rfl rfl rfl ⟨rfl, rfl, rfl, rfl, rfl⟩ rfl rfl rfl rfl rfl (by kernel_rfl) Try.func4 (by kernel_rfl)
    (of_decide_eq_true (by kernel_rfl)) (by unfold Func.isWrapper; first | (rw [if_pos (by decide +kernel)]; kernel_rfl) | (rw [if_neg (by decide +kernel)]; exact ⟨rfl, rfl⟩))
    (fun os started H enc _ => lifted os started H enc)
theorem proved : Rows.FnExactCountSaid := over
#print axioms proved
end Go.Proofs.Ytmjpmekckgjcpaa.fnExactCount
namespace Go.Proofs.Ytmjpmekckgjcpaa
/-- The row, under a short name, for the claim. -/
theorem fnExactCount_holds : Rows.FnExactCountSaid := fnExactCount.proved
end Go.Proofs.Ytmjpmekckgjcpaa
