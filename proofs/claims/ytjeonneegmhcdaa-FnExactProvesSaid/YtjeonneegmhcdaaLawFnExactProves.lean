/- The row of the law FnExactProves, out of its pure statement and the printed walk: for every input the law returns true, and its arguments read as they did. No condition. -/
import Derived.Test.YtjeonneegmhcdaaRows
import Derived.Test.YtjeonneegmhcdaaPFnExactProvesx8
import Derived.Test.YtjeonneegmhcdaaPureFnExactProves
import Derived.Test.YtjeonneegmhcdaaOFnExactProves
import Derived.WalkKit
import Derived.ProofKit
import Derived.OpenShut
import Derived.ShutString
import Derived.ChangeOld
import Derived.Below
import Derived.SizedLaws
import Derived.Carry
namespace Go.Proofs.Ytjeonneegmhcdaa.fnExactProves
open Go.ChangeShapes Go.WideShapes Go.ChangeAt Go.RowKit
open Go.ChangeMaps (open_string shut_string)
open Go.Proofs.Ytjeonneegmhcdaa.Open Go.Proofs.Ytjeonneegmhcdaa.PFnExactProves Go.Proofs.YtjeonneegmhcdaaW.PrintWords
set_option linter.unusedVariables false
theorem own : ownKnob Try.prog.godebug = none := by kernel_rfl
theorem laidOut : laidOutB Try.prog = true := by kernel_rfl
set_option maxRecDepth 100000 in
theorem open0 : Opens Try.prog 54 (Kd.slice 24 (Kd.slice 3 (Kd.int .i64))) (fun x => (x.length ≤ 9223372036854775807 ∧ ∀ y0 ∈ x, (y0.length ≤ 9223372036854775807 ∧ ∀ y1 ∈ y0, (-9223372036854775808 ≤ y1 ∧ y1 ≤ 9223372036854775807)))) :=
  (opens_slice Try.underlying54 (by kernel_rfl) (opens_slice Try.underlying24 (by kernel_rfl) (opens_i64 Try.underlying3)))
set_option maxRecDepth 100000 in
theorem open1 : Opens Try.prog 24 (Kd.slice 3 (Kd.int .i64)) (fun x => (x.length ≤ 9223372036854775807 ∧ ∀ y0 ∈ x, (-9223372036854775808 ≤ y0 ∧ y0 ≤ 9223372036854775807))) :=
  (opens_slice Try.underlying24 (by kernel_rfl) (opens_i64 Try.underlying3))
set_option maxRecDepth 100000 in
theorem open2 : Opens Try.prog 24 (Kd.slice 3 (Kd.int .i64)) (fun x => (x.length ≤ 9223372036854775807 ∧ ∀ y0 ∈ x, (-9223372036854775808 ≤ y0 ∧ y0 ≤ 9223372036854775807))) :=
  (opens_slice Try.underlying24 (by kernel_rfl) (opens_i64 Try.underlying3))
set_option maxRecDepth 100000 in
theorem open3 : Opens Try.prog 24 (Kd.slice 3 (Kd.int .i64)) (fun x => (x.length ≤ 9223372036854775807 ∧ ∀ y0 ∈ x, (-9223372036854775808 ≤ y0 ∧ y0 ≤ 9223372036854775807))) :=
  (opens_slice Try.underlying24 (by kernel_rfl) (opens_i64 Try.underlying3))
set_option maxRecDepth 100000 in
theorem lifted (os : Os) (started : os.Started) (H : Type) (enc : TypeId × Value → H) :
    ReturnsInHanded {} Try.checked os 14 .any (Rows.fnExactProvesSpec.pre6 enc Try.prog Try.f14 Rows.fnExactProvesRow.domain false) (Rows.fnExactProvesSpec.post enc Try.prog Try.f14 false true false false) := by
  refine returnsInHanded_of_change_sized (C := Try.checked) own started (by kernel_rfl) Try.func14
    (ChangeSpec.witness6 (enc := enc) (C := Try.checked) false ⟨#[], #[.slice none 0 0, .slice none 0 0, .slice none 0 0, .slice none 0 0], []⟩ 8 (by kernel_rfl) (by kernel_rfl) (by kernel_rfl) (by kernel_rfl)) ?_
  intro W base args ds gs before hval0 hW hcnd hsz0 _
  have hval : ∀ (j : Nat) t v, Try.f14.params[j]? = some t → args[j]? = some v → Value.okWide Try.prog W .any base t v := hval0
  have hW' := hW
  obtain ⟨p, q, hA0, hV, rfl, hfz, hnd⟩ := hW
  have hA : DataW.TrodAll enc Try.prog W 0 (fun _ => true) true Try.f14.params.toList args.toList ds p := hA0
  rw [Try.params14] at hA hval
  obtain ⟨v0, vs0, d0, ds0, p0, q0, hargs, rfl, rfl, h0, r0⟩ := trodAll_cons hA
  obtain ⟨v1, vs1, d1, ds1, p1, q1, rfl, rfl, rfl, h1, r1⟩ := trodAll_cons r0
  obtain ⟨v2, vs2, d2, ds2, p2, q2, rfl, rfl, rfl, h2, r2⟩ := trodAll_cons r1
  obtain ⟨v3, vs3, d3, ds3, p3, q3, rfl, rfl, rfl, h3, r3⟩ := trodAll_cons r2
  obtain ⟨rfl, rfl, rfl⟩ := trodAll_nil r3
  obtain rfl : args = #[v0, v1, v2, v3] := by cases args; simp_all
  obtain ⟨rfl, rfl⟩ := trodVars_none hV
  have k0 := h0
  have lt0 : ∀ x ∈ p0, x.block < W.heap.size := by obtain ⟨m, hm⟩ := k0; exact DataW.trod_lt m _ _ _ hm
  obtain ⟨a0, len0, cap0, rfl⟩ := okWide_slice Try.underlying54 (hval 0 54 v0 rfl rfl)
  obtain ⟨x0, hK0, hF0⟩ := Trod_opens open0 h0
  have hK0' : Kd.K (Kd.slice 24 (Kd.slice 3 (Kd.int .i64))) W x0 [.slice a0 len0 cap0] := hK0
  clear hK0
  obtain ⟨A0, c0, e0, hc0, hr0⟩ := hK0'
  simp only [List.cons.injEq, and_true, Value.slice.injEq] at e0
  obtain ⟨rfl, rfl, rfl⟩ := e0
  have k1 := h1
  have lt1 : ∀ x ∈ p1, x.block < W.heap.size := by obtain ⟨m, hm⟩ := k1; exact DataW.trod_lt m _ _ _ hm
  obtain ⟨a1, len1, cap1, rfl⟩ := okWide_slice Try.underlying24 (hval 1 24 v1 rfl rfl)
  obtain ⟨x1, hK1, hF1⟩ := Trod_opens open1 h1
  have hK1' : Kd.K (Kd.slice 3 (Kd.int .i64)) W x1 [.slice a1 len1 cap1] := hK1
  clear hK1
  obtain ⟨A1, c1, e1, hc1, hr1⟩ := hK1'
  simp only [List.cons.injEq, and_true, Value.slice.injEq] at e1
  obtain ⟨rfl, rfl, rfl⟩ := e1
  have k2 := h2
  have lt2 : ∀ x ∈ p2, x.block < W.heap.size := by obtain ⟨m, hm⟩ := k2; exact DataW.trod_lt m _ _ _ hm
  obtain ⟨a2, len2, cap2, rfl⟩ := okWide_slice Try.underlying24 (hval 2 24 v2 rfl rfl)
  obtain ⟨x2, hK2, hF2⟩ := Trod_opens open2 h2
  have hK2' : Kd.K (Kd.slice 3 (Kd.int .i64)) W x2 [.slice a2 len2 cap2] := hK2
  clear hK2
  obtain ⟨A2, c2, e2, hc2, hr2⟩ := hK2'
  simp only [List.cons.injEq, and_true, Value.slice.injEq] at e2
  obtain ⟨rfl, rfl, rfl⟩ := e2
  have k3 := h3
  have lt3 : ∀ x ∈ p3, x.block < W.heap.size := by obtain ⟨m, hm⟩ := k3; exact DataW.trod_lt m _ _ _ hm
  obtain ⟨a3, len3, cap3, rfl⟩ := okWide_slice Try.underlying24 (hval 3 24 v3 rfl rfl)
  obtain ⟨x3, hK3, hF3⟩ := Trod_opens open3 h3
  have hK3' : Kd.K (Kd.slice 3 (Kd.int .i64)) W x3 [.slice a3 len3 cap3] := hK3
  clear hK3
  obtain ⟨A3, c3, e3, hc3, hr3⟩ := hK3'
  simp only [List.cons.injEq, and_true, Value.slice.injEq] at e3
  obtain ⟨rfl, rfl, rfl⟩ := e3
  clear hA0 hval0 hsz0
  obtain ⟨k, hP⟩ := Pure.FnExactProves x0 x1 x2 x3 hF0 hF1 hF2 hF3
  refine (laws_FnExactProves.calls (r := true) (w := W) (hr0 := hr0) (hc0 := hc0) (hr1 := hr1) (hc1 := hc1) (hr2 := hr2) (hc2 := hc2) (hr3 := hr3) (hc3 := hc3) (hT := rfl) (h := hP)).mono fun e W' hh => ?_
  obtain ⟨he, bel0⟩ := hh
  have bel : Below W.heap.size W W' := by first | exact bel0 | (obtain ⟨nd, rfl⟩ := bel0; exact pw_below_drewN (Below.refl _ _) nd)
  subst he
  exact ⟨_, rfl, _, _, _, [], _, [], hW', trodAll_mk1 (shut_bool Try.underlying4 _), (trodAll_cons_mk (Below.trod laidOut (by kernel_rfl) (of_decide_eq_true (by kernel_rfl)) k0 bel lt0) (trodAll_cons_mk (Below.trod laidOut (by kernel_rfl) (of_decide_eq_true (by kernel_rfl)) k1 bel lt1) (trodAll_cons_mk (Below.trod laidOut (by kernel_rfl) (of_decide_eq_true (by kernel_rfl)) k2 bel lt2) (trodAll_cons_mk (Below.trod laidOut (by kernel_rfl) (of_decide_eq_true (by kernel_rfl)) k3 bel lt3) trodAll_mk0)))), rfl, bel.frame _, fun h => by cases h⟩
theorem over : Rows.fnExactProvesRow.holds Try.pinned (OpenSpec.ofChange Rows.fnExactProvesSpec) :=
  OpenClaim.holds_of_wide 14 Try.f14 rfl rfl rfl rfl rfl rfl rfl ⟨rfl, rfl, rfl, rfl, rfl⟩ rfl rfl rfl rfl rfl (by kernel_rfl) Try.func14 (by kernel_rfl)
    (of_decide_eq_true (by kernel_rfl)) (by unfold Func.isWrapper; first | (rw [if_pos (by decide +kernel)]; kernel_rfl) | (rw [if_neg (by decide +kernel)]; exact ⟨rfl, rfl⟩))
    (fun os started H enc _ => lifted os started H enc)
theorem proved : Rows.FnExactProvesSaid := over
#print axioms proved
end Go.Proofs.Ytjeonneegmhcdaa.fnExactProves
namespace Go.Proofs.Ytjeonneegmhcdaa
/-- The row, under a short name, for the claim. -/
theorem fnExactProves_holds : Rows.FnExactProvesSaid := fnExactProves.proved
end Go.Proofs.Ytjeonneegmhcdaa
