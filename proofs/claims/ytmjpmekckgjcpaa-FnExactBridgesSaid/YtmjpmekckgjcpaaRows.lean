/-
  No cell of these rows narrows 'for every input' (looked for: loops, veiled, ifaces, maps, wideKeys, modest, calm, conditions, laid).
  DERIVED. THE GIVEN ROWS OF THIS SEAT. 12 by the template 'for every input the law returns true; each argument reads behind the call as it read before'; 0 by the template 'total and deterministic' (their statements: YtmjpmekckgjcpaaTotals.lean).
  GIVEN WITH THE SEED: the statements are not yours to turn. If you find one false, say at which input.
  Laid BY PROGRAM, IN A SANDBOX (cutbox-rows.mjs): the forced cells as the released guide's own fill.sh prints them over the translation 35b3488d2496a97e… (all of the seat's roots in one cut). By AI agents, Wed Nov 11 2026. No macro, syntax, notation, axiom, sorry.
-/
import Derived.Test.YtmjpmekckgjcpaaChecked
import GoSem.Claim
import GoSem.ClaimJoined
import GoSem.ClaimMapViews
import Derived.JoinedTies
import Derived.KernelRfl
namespace Go.Proofs.Ytmjpmekckgjcpaa
/- THE CELL 'sum', in the pinned program and in every row, IS THE sha256 OF THE DUMP (.gsa) THAT YtmjpmekckgjcpaaProg.lean LOADS. Nothing in Lean hashes anything: it is a label: what it is worth is what the hold of that sum in a sandbox is worth. -/
noncomputable def Try.pinned : Pinned := { name := "ytmjpmekckgjcpaa", sum := "35b3488d2496a97e774107f87db62f9daa30f8a2f0454f07f03823c31433ab63", checked := Try.checked }
namespace Rows
def none {H : Type} : Left H := { results := [], args := [] }

/-- 'laws.FnExactSteps': WHATEVER THE INPUT: true; the input reads as it did. -/
def fnExactStepsSpec : ChangeSpec := { name := "fnExactSteps", fn := fun _ => fun
  | [d1, d2, d3] => { results := [.lit (.bool true)], args := [d1, d2, d3] }
  | _ => none }
def fnExactStepsRow : OpenClaim := { program := "ytmjpmekckgjcpaa", sum := "35b3488d2496a97e774107f87db62f9daa30f8a2f0454f07f03823c31433ab63", func := "loop.example/g00179/laws.FnExactSteps", spec := "fnExactSteps", apart := false }
def FnExactStepsSaid : Prop := fnExactStepsRow.holds Try.pinned (OpenSpec.ofChange fnExactStepsSpec)

/-- ITS FALSE NEIGHBOUR: 'it returns false'. Refute it at one input. -/
def fnExactStepsWrong : ChangeSpec := { name := "fnExactSteps", fn := fun _ => fun
  | [d1, d2, d3] => { results := [.lit (.bool false)], args := [d1, d2, d3] }
  | _ => none }
def FnExactStepsWrongFalsely : Prop := fnExactStepsRow.holds Try.pinned (OpenSpec.ofChange fnExactStepsWrong)

/-- 'laws.FnExactCount': WHATEVER THE INPUT: true; the input reads as it did. -/
def fnExactCountSpec : ChangeSpec := { name := "fnExactCount", fn := fun _ => fun
  | [d1, d2] => { results := [.lit (.bool true)], args := [d1, d2] }
  | _ => none }
def fnExactCountRow : OpenClaim := { program := "ytmjpmekckgjcpaa", sum := "35b3488d2496a97e774107f87db62f9daa30f8a2f0454f07f03823c31433ab63", func := "loop.example/g00179/laws.FnExactCount", spec := "fnExactCount", apart := false }
def FnExactCountSaid : Prop := fnExactCountRow.holds Try.pinned (OpenSpec.ofChange fnExactCountSpec)

/-- ITS FALSE NEIGHBOUR: 'it returns false'. Refute it at one input. -/
def fnExactCountWrong : ChangeSpec := { name := "fnExactCount", fn := fun _ => fun
  | [d1, d2] => { results := [.lit (.bool false)], args := [d1, d2] }
  | _ => none }
def FnExactCountWrongFalsely : Prop := fnExactCountRow.holds Try.pinned (OpenSpec.ofChange fnExactCountWrong)

/-- 'laws.FnBeside': WHATEVER THE INPUT: true; the input reads as it did. -/
def fnBesideSpec : ChangeSpec := { name := "fnBeside", fn := fun _ => fun
  | [d] => { results := [.lit (.bool true)], args := [d] }
  | _ => none }
def fnBesideRow : OpenClaim := { program := "ytmjpmekckgjcpaa", sum := "35b3488d2496a97e774107f87db62f9daa30f8a2f0454f07f03823c31433ab63", func := "loop.example/g00179/laws.FnBeside", spec := "fnBeside", apart := false }
def FnBesideSaid : Prop := fnBesideRow.holds Try.pinned (OpenSpec.ofChange fnBesideSpec)

/-- ITS FALSE NEIGHBOUR: 'it returns false'. Refute it at one input. -/
def fnBesideWrong : ChangeSpec := { name := "fnBeside", fn := fun _ => fun
  | [d] => { results := [.lit (.bool false)], args := [d] }
  | _ => none }
def FnBesideWrongFalsely : Prop := fnBesideRow.holds Try.pinned (OpenSpec.ofChange fnBesideWrong)

/-- 'laws.FnExactFree': WHATEVER THE INPUT: true; the input reads as it did. -/
def fnExactFreeSpec : ChangeSpec := { name := "fnExactFree", fn := fun _ => fun
  | [d1, d2] => { results := [.lit (.bool true)], args := [d1, d2] }
  | _ => none }
def fnExactFreeRow : OpenClaim := { program := "ytmjpmekckgjcpaa", sum := "35b3488d2496a97e774107f87db62f9daa30f8a2f0454f07f03823c31433ab63", func := "loop.example/g00179/laws.FnExactFree", spec := "fnExactFree", apart := false }
def FnExactFreeSaid : Prop := fnExactFreeRow.holds Try.pinned (OpenSpec.ofChange fnExactFreeSpec)

/-- ITS FALSE NEIGHBOUR: 'it returns false'. Refute it at one input. -/
def fnExactFreeWrong : ChangeSpec := { name := "fnExactFree", fn := fun _ => fun
  | [d1, d2] => { results := [.lit (.bool false)], args := [d1, d2] }
  | _ => none }
def FnExactFreeWrongFalsely : Prop := fnExactFreeRow.holds Try.pinned (OpenSpec.ofChange fnExactFreeWrong)

/-- 'laws.FnExactWidest': WHATEVER THE INPUT: true; the input reads as it did. -/
def fnExactWidestSpec : ChangeSpec := { name := "fnExactWidest", fn := fun _ => fun
  | [d] => { results := [.lit (.bool true)], args := [d] }
  | _ => none }
def fnExactWidestRow : OpenClaim := { program := "ytmjpmekckgjcpaa", sum := "35b3488d2496a97e774107f87db62f9daa30f8a2f0454f07f03823c31433ab63", func := "loop.example/g00179/laws.FnExactWidest", spec := "fnExactWidest", apart := false }
def FnExactWidestSaid : Prop := fnExactWidestRow.holds Try.pinned (OpenSpec.ofChange fnExactWidestSpec)

/-- ITS FALSE NEIGHBOUR: 'it returns false'. Refute it at one input. -/
def fnExactWidestWrong : ChangeSpec := { name := "fnExactWidest", fn := fun _ => fun
  | [d] => { results := [.lit (.bool false)], args := [d] }
  | _ => none }
def FnExactWidestWrongFalsely : Prop := fnExactWidestRow.holds Try.pinned (OpenSpec.ofChange fnExactWidestWrong)

/-- 'laws.FnExactField': WHATEVER THE INPUT: true; the input reads as it did. -/
def fnExactFieldSpec : ChangeSpec := { name := "fnExactField", fn := fun _ => fun
  | [d1, d2, d3] => { results := [.lit (.bool true)], args := [d1, d2, d3] }
  | _ => none }
def fnExactFieldRow : OpenClaim := { program := "ytmjpmekckgjcpaa", sum := "35b3488d2496a97e774107f87db62f9daa30f8a2f0454f07f03823c31433ab63", func := "loop.example/g00179/laws.FnExactField", spec := "fnExactField", apart := false }
def FnExactFieldSaid : Prop := fnExactFieldRow.holds Try.pinned (OpenSpec.ofChange fnExactFieldSpec)

/-- ITS FALSE NEIGHBOUR: 'it returns false'. Refute it at one input. -/
def fnExactFieldWrong : ChangeSpec := { name := "fnExactField", fn := fun _ => fun
  | [d1, d2, d3] => { results := [.lit (.bool false)], args := [d1, d2, d3] }
  | _ => none }
def FnExactFieldWrongFalsely : Prop := fnExactFieldRow.holds Try.pinned (OpenSpec.ofChange fnExactFieldWrong)

/-- 'laws.FnExactParseFloor': WHATEVER THE INPUT: true; the input reads as it did. -/
def fnExactParseFloorSpec : ChangeSpec := { name := "fnExactParseFloor", fn := fun _ => fun
  | [d] => { results := [.lit (.bool true)], args := [d] }
  | _ => none }
def fnExactParseFloorRow : OpenClaim := { program := "ytmjpmekckgjcpaa", sum := "35b3488d2496a97e774107f87db62f9daa30f8a2f0454f07f03823c31433ab63", func := "loop.example/g00179/laws.FnExactParseFloor", spec := "fnExactParseFloor", inPlace := ["internal/bytealg.IndexByteString", "internal/bytealg.IndexString"], named := ["internal/bytealg.MaxLen"], apart := false }
def FnExactParseFloorSaid : Prop := fnExactParseFloorRow.holds Try.pinned (OpenSpec.ofChange fnExactParseFloorSpec)

/-- ITS FALSE NEIGHBOUR: 'it returns false'. Refute it at one input. -/
def fnExactParseFloorWrong : ChangeSpec := { name := "fnExactParseFloor", fn := fun _ => fun
  | [d] => { results := [.lit (.bool false)], args := [d] }
  | _ => none }
def FnExactParseFloorWrongFalsely : Prop := fnExactParseFloorRow.holds Try.pinned (OpenSpec.ofChange fnExactParseFloorWrong)

/-- 'laws.FnExactTogether': WHATEVER THE INPUT: true; the input reads as it did. -/
def fnExactTogetherSpec : ChangeSpec := { name := "fnExactTogether", fn := fun _ => fun
  | [d] => { results := [.lit (.bool true)], args := [d] }
  | _ => none }
def fnExactTogetherRow : OpenClaim := { program := "ytmjpmekckgjcpaa", sum := "35b3488d2496a97e774107f87db62f9daa30f8a2f0454f07f03823c31433ab63", func := "loop.example/g00179/laws.FnExactTogether", spec := "fnExactTogether", apart := false }
def FnExactTogetherSaid : Prop := fnExactTogetherRow.holds Try.pinned (OpenSpec.ofChange fnExactTogetherSpec)

/-- ITS FALSE NEIGHBOUR: 'it returns false'. Refute it at one input. -/
def fnExactTogetherWrong : ChangeSpec := { name := "fnExactTogether", fn := fun _ => fun
  | [d] => { results := [.lit (.bool false)], args := [d] }
  | _ => none }
def FnExactTogetherWrongFalsely : Prop := fnExactTogetherRow.holds Try.pinned (OpenSpec.ofChange fnExactTogetherWrong)

/-- 'laws.FnMatched': WHATEVER THE INPUT: true; the input reads as it did. -/
def fnMatchedSpec : ChangeSpec := { name := "fnMatched", fn := fun _ => fun
  | [d] => { results := [.lit (.bool true)], args := [d] }
  | _ => none }
def fnMatchedRow : OpenClaim := { program := "ytmjpmekckgjcpaa", sum := "35b3488d2496a97e774107f87db62f9daa30f8a2f0454f07f03823c31433ab63", func := "loop.example/g00179/laws.FnMatched", spec := "fnMatched", recurses := true, apart := false }
def FnMatchedSaid : Prop := fnMatchedRow.holds Try.pinned (OpenSpec.ofChange fnMatchedSpec)

/-- ITS FALSE NEIGHBOUR: 'it returns false'. Refute it at one input. -/
def fnMatchedWrong : ChangeSpec := { name := "fnMatched", fn := fun _ => fun
  | [d] => { results := [.lit (.bool false)], args := [d] }
  | _ => none }
def FnMatchedWrongFalsely : Prop := fnMatchedRow.holds Try.pinned (OpenSpec.ofChange fnMatchedWrong)

/-- 'laws.FnExactWay': WHATEVER THE INPUT: true; the input reads as it did. -/
def fnExactWaySpec : ChangeSpec := { name := "fnExactWay", fn := fun _ => fun
  | [d1, d2, d3, d4] => { results := [.lit (.bool true)], args := [d1, d2, d3, d4] }
  | _ => none }
def fnExactWayRow : OpenClaim := { program := "ytmjpmekckgjcpaa", sum := "35b3488d2496a97e774107f87db62f9daa30f8a2f0454f07f03823c31433ab63", func := "loop.example/g00179/laws.FnExactWay", spec := "fnExactWay", apart := false }
def FnExactWaySaid : Prop := fnExactWayRow.holds Try.pinned (OpenSpec.ofChange fnExactWaySpec)

/-- ITS FALSE NEIGHBOUR: 'it returns false'. Refute it at one input. -/
def fnExactWayWrong : ChangeSpec := { name := "fnExactWay", fn := fun _ => fun
  | [d1, d2, d3, d4] => { results := [.lit (.bool false)], args := [d1, d2, d3, d4] }
  | _ => none }
def FnExactWayWrongFalsely : Prop := fnExactWayRow.holds Try.pinned (OpenSpec.ofChange fnExactWayWrong)

/-- 'laws.FnExactBridges': WHATEVER THE INPUT: true; the input reads as it did. -/
def fnExactBridgesSpec : ChangeSpec := { name := "fnExactBridges", fn := fun _ => fun
  | [d] => { results := [.lit (.bool true)], args := [d] }
  | _ => none }
def fnExactBridgesRow : OpenClaim := { program := "ytmjpmekckgjcpaa", sum := "35b3488d2496a97e774107f87db62f9daa30f8a2f0454f07f03823c31433ab63", func := "loop.example/g00179/laws.FnExactBridges", spec := "fnExactBridges", apart := false }
def FnExactBridgesSaid : Prop := fnExactBridgesRow.holds Try.pinned (OpenSpec.ofChange fnExactBridgesSpec)

/-- ITS FALSE NEIGHBOUR: 'it returns false'. Refute it at one input. -/
def fnExactBridgesWrong : ChangeSpec := { name := "fnExactBridges", fn := fun _ => fun
  | [d] => { results := [.lit (.bool false)], args := [d] }
  | _ => none }
def FnExactBridgesWrongFalsely : Prop := fnExactBridgesRow.holds Try.pinned (OpenSpec.ofChange fnExactBridgesWrong)

/-- 'laws.FnExactMatch': WHATEVER THE INPUT: true; the input reads as it did. -/
def fnExactMatchSpec : ChangeSpec := { name := "fnExactMatch", fn := fun _ => fun
  | [d] => { results := [.lit (.bool true)], args := [d] }
  | _ => none }
def fnExactMatchRow : OpenClaim := { program := "ytmjpmekckgjcpaa", sum := "35b3488d2496a97e774107f87db62f9daa30f8a2f0454f07f03823c31433ab63", func := "loop.example/g00179/laws.FnExactMatch", spec := "fnExactMatch", apart := false }
def FnExactMatchSaid : Prop := fnExactMatchRow.holds Try.pinned (OpenSpec.ofChange fnExactMatchSpec)

/-- ITS FALSE NEIGHBOUR: 'it returns false'. Refute it at one input. -/
def fnExactMatchWrong : ChangeSpec := { name := "fnExactMatch", fn := fun _ => fun
  | [d] => { results := [.lit (.bool false)], args := [d] }
  | _ => none }
def FnExactMatchWrongFalsely : Prop := fnExactMatchRow.holds Try.pinned (OpenSpec.ofChange fnExactMatchWrong)

/- THE SECOND FORM. 'bulk': how many values and letters a reading holds, each counted each time it is reached (what is shared counts as often as it is met; a slice's spare places count too). A statement '..UptoSaid' is the law's where the arguments, and the package variables that the reading takes, are together of bulk at most 1048576: NARROWER than '..Said'. Prove '..Said' where nothing that the law and all that it calls make is longer than what came in: it says more and counts as full. Else prove '..UptoSaid'. A law counts once. -/
mutual
def uptoBulk {H : Type} : DataW H → Nat
  | .lit (.string bytes) => bytes.length + 1
  | .lit _ => 1
  | .nil => 1
  | .ptr d => uptoBulk d + 1
  | .slice elems spare => uptoBulkAll elems + uptoBulkAll spare + 1
  | .agg parts => uptoBulkAll parts + 1
  | .iface _ d => uptoBulk d + 1
  | .map entries => uptoBulkEntries entries + 1
  | .held _ => 1
def uptoBulkAll {H : Type} : List (DataW H) → Nat
  | [] => 0
  | d :: r => uptoBulk d + uptoBulkAll r
def uptoBulkEntries {H : Type} : List (Lit × DataW H) → Nat
  | [] => 0
  | x :: r => uptoBulkEntry x + uptoBulkEntries r
def uptoBulkEntry {H : Type} : Lit × DataW H → Nat
  | (.string bytes, d) => bytes.length + uptoBulk d + 1
  | (_, d) => uptoBulk d + 1
 end
def uptoSmall : (H : Type) → List (DataW H) → Bool := fun _ ds => decide (uptoBulkAll ds ≤ 1048576)
def OpenSpec.upto (s : _root_.Go.ChangeSpec) : _root_.Go.OpenSpec := { _root_.Go.OpenSpec.ofChange s with cond := some uptoSmall }

/-- 'laws.FnExactSteps', WHERE WHAT IT READS IS OF BULK AT MOST 1048576: true; the input reads as it did. -/
def fnExactStepsUptoRow : OpenClaim := { program := "ytmjpmekckgjcpaa", sum := "35b3488d2496a97e774107f87db62f9daa30f8a2f0454f07f03823c31433ab63", func := "loop.example/g00179/laws.FnExactSteps", spec := "fnExactSteps", apart := false, narrowed := true }
def FnExactStepsUptoSaid : Prop := fnExactStepsUptoRow.holds Try.pinned (OpenSpec.upto fnExactStepsSpec)

/-- 'laws.FnExactCount', WHERE WHAT IT READS IS OF BULK AT MOST 1048576: true; the input reads as it did. -/
def fnExactCountUptoRow : OpenClaim := { program := "ytmjpmekckgjcpaa", sum := "35b3488d2496a97e774107f87db62f9daa30f8a2f0454f07f03823c31433ab63", func := "loop.example/g00179/laws.FnExactCount", spec := "fnExactCount", apart := false, narrowed := true }
def FnExactCountUptoSaid : Prop := fnExactCountUptoRow.holds Try.pinned (OpenSpec.upto fnExactCountSpec)

/-- 'laws.FnBeside', WHERE WHAT IT READS IS OF BULK AT MOST 1048576: true; the input reads as it did. -/
def fnBesideUptoRow : OpenClaim := { program := "ytmjpmekckgjcpaa", sum := "35b3488d2496a97e774107f87db62f9daa30f8a2f0454f07f03823c31433ab63", func := "loop.example/g00179/laws.FnBeside", spec := "fnBeside", apart := false, narrowed := true }
def FnBesideUptoSaid : Prop := fnBesideUptoRow.holds Try.pinned (OpenSpec.upto fnBesideSpec)

/-- 'laws.FnExactFree', WHERE WHAT IT READS IS OF BULK AT MOST 1048576: true; the input reads as it did. -/
def fnExactFreeUptoRow : OpenClaim := { program := "ytmjpmekckgjcpaa", sum := "35b3488d2496a97e774107f87db62f9daa30f8a2f0454f07f03823c31433ab63", func := "loop.example/g00179/laws.FnExactFree", spec := "fnExactFree", apart := false, narrowed := true }
def FnExactFreeUptoSaid : Prop := fnExactFreeUptoRow.holds Try.pinned (OpenSpec.upto fnExactFreeSpec)

/-- 'laws.FnExactWidest', WHERE WHAT IT READS IS OF BULK AT MOST 1048576: true; the input reads as it did. -/
def fnExactWidestUptoRow : OpenClaim := { program := "ytmjpmekckgjcpaa", sum := "35b3488d2496a97e774107f87db62f9daa30f8a2f0454f07f03823c31433ab63", func := "loop.example/g00179/laws.FnExactWidest", spec := "fnExactWidest", apart := false, narrowed := true }
def FnExactWidestUptoSaid : Prop := fnExactWidestUptoRow.holds Try.pinned (OpenSpec.upto fnExactWidestSpec)

/-- 'laws.FnExactField', WHERE WHAT IT READS IS OF BULK AT MOST 1048576: true; the input reads as it did. -/
def fnExactFieldUptoRow : OpenClaim := { program := "ytmjpmekckgjcpaa", sum := "35b3488d2496a97e774107f87db62f9daa30f8a2f0454f07f03823c31433ab63", func := "loop.example/g00179/laws.FnExactField", spec := "fnExactField", apart := false, narrowed := true }
def FnExactFieldUptoSaid : Prop := fnExactFieldUptoRow.holds Try.pinned (OpenSpec.upto fnExactFieldSpec)

/-- 'laws.FnExactParseFloor', WHERE WHAT IT READS IS OF BULK AT MOST 1048576: true; the input reads as it did. -/
def fnExactParseFloorUptoRow : OpenClaim := { program := "ytmjpmekckgjcpaa", sum := "35b3488d2496a97e774107f87db62f9daa30f8a2f0454f07f03823c31433ab63", func := "loop.example/g00179/laws.FnExactParseFloor", spec := "fnExactParseFloor", inPlace := ["internal/bytealg.IndexByteString", "internal/bytealg.IndexString"], named := ["internal/bytealg.MaxLen"], apart := false, narrowed := true }
def FnExactParseFloorUptoSaid : Prop := fnExactParseFloorUptoRow.holds Try.pinned (OpenSpec.upto fnExactParseFloorSpec)

/-- 'laws.FnExactTogether', WHERE WHAT IT READS IS OF BULK AT MOST 1048576: true; the input reads as it did. -/
def fnExactTogetherUptoRow : OpenClaim := { program := "ytmjpmekckgjcpaa", sum := "35b3488d2496a97e774107f87db62f9daa30f8a2f0454f07f03823c31433ab63", func := "loop.example/g00179/laws.FnExactTogether", spec := "fnExactTogether", apart := false, narrowed := true }
def FnExactTogetherUptoSaid : Prop := fnExactTogetherUptoRow.holds Try.pinned (OpenSpec.upto fnExactTogetherSpec)

/-- 'laws.FnMatched', WHERE WHAT IT READS IS OF BULK AT MOST 1048576: true; the input reads as it did. -/
def fnMatchedUptoRow : OpenClaim := { program := "ytmjpmekckgjcpaa", sum := "35b3488d2496a97e774107f87db62f9daa30f8a2f0454f07f03823c31433ab63", func := "loop.example/g00179/laws.FnMatched", spec := "fnMatched", recurses := true, apart := false, narrowed := true }
def FnMatchedUptoSaid : Prop := fnMatchedUptoRow.holds Try.pinned (OpenSpec.upto fnMatchedSpec)

/-- 'laws.FnExactWay', WHERE WHAT IT READS IS OF BULK AT MOST 1048576: true; the input reads as it did. -/
def fnExactWayUptoRow : OpenClaim := { program := "ytmjpmekckgjcpaa", sum := "35b3488d2496a97e774107f87db62f9daa30f8a2f0454f07f03823c31433ab63", func := "loop.example/g00179/laws.FnExactWay", spec := "fnExactWay", apart := false, narrowed := true }
def FnExactWayUptoSaid : Prop := fnExactWayUptoRow.holds Try.pinned (OpenSpec.upto fnExactWaySpec)

/-- 'laws.FnExactBridges', WHERE WHAT IT READS IS OF BULK AT MOST 1048576: true; the input reads as it did. -/
def fnExactBridgesUptoRow : OpenClaim := { program := "ytmjpmekckgjcpaa", sum := "35b3488d2496a97e774107f87db62f9daa30f8a2f0454f07f03823c31433ab63", func := "loop.example/g00179/laws.FnExactBridges", spec := "fnExactBridges", apart := false, narrowed := true }
def FnExactBridgesUptoSaid : Prop := fnExactBridgesUptoRow.holds Try.pinned (OpenSpec.upto fnExactBridgesSpec)

/-- 'laws.FnExactMatch', WHERE WHAT IT READS IS OF BULK AT MOST 1048576: true; the input reads as it did. -/
def fnExactMatchUptoRow : OpenClaim := { program := "ytmjpmekckgjcpaa", sum := "35b3488d2496a97e774107f87db62f9daa30f8a2f0454f07f03823c31433ab63", func := "loop.example/g00179/laws.FnExactMatch", spec := "fnExactMatch", apart := false, narrowed := true }
def FnExactMatchUptoSaid : Prop := fnExactMatchUptoRow.holds Try.pinned (OpenSpec.upto fnExactMatchSpec)

end Rows
end Go.Proofs.Ytmjpmekckgjcpaa
