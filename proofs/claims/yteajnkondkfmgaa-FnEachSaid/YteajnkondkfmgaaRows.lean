/-
  No cell of these rows narrows 'for every input' (looked for: loops, veiled, ifaces, maps, wideKeys, modest, calm, conditions, laid).
  DERIVED. THE GIVEN ROWS OF THIS SEAT. 12 by the template 'for every input the law returns true; each argument reads behind the call as it read before'; 0 by the template 'total and deterministic' (their statements: YteajnkondkfmgaaTotals.lean).
  GIVEN WITH THE SEED: the statements are not yours to turn. If you find one false, say at which input.
  Laid BY PROGRAM, IN A SANDBOX (cutbox-rows.mjs): the forced cells as the released guide's own fill.sh prints them over the translation 05591e4fc61ec4ed… (all of the seat's roots in one cut). By AI agents, Wed Nov 11 2026. No macro, syntax, notation, axiom, sorry.
-/
import Derived.Test.YteajnkondkfmgaaChecked
import GoSem.Claim
import GoSem.ClaimJoined
import GoSem.ClaimMapViews
import Derived.JoinedTies
import Derived.KernelRfl
namespace Go.Proofs.Yteajnkondkfmgaa
/- THE CELL 'sum', in the pinned program and in every row, IS THE sha256 OF THE DUMP (.gsa) THAT YteajnkondkfmgaaProg.lean LOADS. Nothing in Lean hashes anything: it is a label: what it is worth is what the hold of that sum in a sandbox is worth. -/
noncomputable def Try.pinned : Pinned := { name := "yteajnkondkfmgaa", sum := "05591e4fc61ec4ed840f4ed883c5163ed066d2db2d34e0537b74dc8eefadd277", checked := Try.checked }
namespace Rows
def none {H : Type} : Left H := { results := [], args := [] }

/-- 'laws.FnHeld': WHATEVER THE INPUT: true; the input reads as it did. -/
def fnHeldSpec : ChangeSpec := { name := "fnHeld", fn := fun _ => fun
  | [d] => { results := [.lit (.bool true)], args := [d] }
  | _ => none }
def fnHeldRow : OpenClaim := { program := "yteajnkondkfmgaa", sum := "05591e4fc61ec4ed840f4ed883c5163ed066d2db2d34e0537b74dc8eefadd277", func := "loop.example/g00179/laws.FnHeld", spec := "fnHeld", apart := false }
def FnHeldSaid : Prop := fnHeldRow.holds Try.pinned (OpenSpec.ofChange fnHeldSpec)

/-- ITS FALSE NEIGHBOUR: 'it returns false'. Refute it at one input. -/
def fnHeldWrong : ChangeSpec := { name := "fnHeld", fn := fun _ => fun
  | [d] => { results := [.lit (.bool false)], args := [d] }
  | _ => none }
def FnHeldWrongFalsely : Prop := fnHeldRow.holds Try.pinned (OpenSpec.ofChange fnHeldWrong)

/-- 'laws.FnTaken': WHATEVER THE INPUT: true; the input reads as it did. -/
def fnTakenSpec : ChangeSpec := { name := "fnTaken", fn := fun _ => fun
  | [d] => { results := [.lit (.bool true)], args := [d] }
  | _ => none }
def fnTakenRow : OpenClaim := { program := "yteajnkondkfmgaa", sum := "05591e4fc61ec4ed840f4ed883c5163ed066d2db2d34e0537b74dc8eefadd277", func := "loop.example/g00179/laws.FnTaken", spec := "fnTaken", apart := false }
def FnTakenSaid : Prop := fnTakenRow.holds Try.pinned (OpenSpec.ofChange fnTakenSpec)

/-- ITS FALSE NEIGHBOUR: 'it returns false'. Refute it at one input. -/
def fnTakenWrong : ChangeSpec := { name := "fnTaken", fn := fun _ => fun
  | [d] => { results := [.lit (.bool false)], args := [d] }
  | _ => none }
def FnTakenWrongFalsely : Prop := fnTakenRow.holds Try.pinned (OpenSpec.ofChange fnTakenWrong)

/-- 'laws.FnExactPutIn': WHATEVER THE INPUT: true; the input reads as it did. -/
def fnExactPutInSpec : ChangeSpec := { name := "fnExactPutIn", fn := fun _ => fun
  | [d1, d2, d3, d4] => { results := [.lit (.bool true)], args := [d1, d2, d3, d4] }
  | _ => none }
def fnExactPutInRow : OpenClaim := { program := "yteajnkondkfmgaa", sum := "05591e4fc61ec4ed840f4ed883c5163ed066d2db2d34e0537b74dc8eefadd277", func := "loop.example/g00179/laws.FnExactPutIn", spec := "fnExactPutIn", apart := false }
def FnExactPutInSaid : Prop := fnExactPutInRow.holds Try.pinned (OpenSpec.ofChange fnExactPutInSpec)

/-- ITS FALSE NEIGHBOUR: 'it returns false'. Refute it at one input. -/
def fnExactPutInWrong : ChangeSpec := { name := "fnExactPutIn", fn := fun _ => fun
  | [d1, d2, d3, d4] => { results := [.lit (.bool false)], args := [d1, d2, d3, d4] }
  | _ => none }
def FnExactPutInWrongFalsely : Prop := fnExactPutInRow.holds Try.pinned (OpenSpec.ofChange fnExactPutInWrong)

/-- 'laws.FnExactHold': WHATEVER THE INPUT: true; the input reads as it did. -/
def fnExactHoldSpec : ChangeSpec := { name := "fnExactHold", fn := fun _ => fun
  | [d1, d2, d3, d4] => { results := [.lit (.bool true)], args := [d1, d2, d3, d4] }
  | _ => none }
def fnExactHoldRow : OpenClaim := { program := "yteajnkondkfmgaa", sum := "05591e4fc61ec4ed840f4ed883c5163ed066d2db2d34e0537b74dc8eefadd277", func := "loop.example/g00179/laws.FnExactHold", spec := "fnExactHold", apart := false }
def FnExactHoldSaid : Prop := fnExactHoldRow.holds Try.pinned (OpenSpec.ofChange fnExactHoldSpec)

/-- ITS FALSE NEIGHBOUR: 'it returns false'. Refute it at one input. -/
def fnExactHoldWrong : ChangeSpec := { name := "fnExactHold", fn := fun _ => fun
  | [d1, d2, d3, d4] => { results := [.lit (.bool false)], args := [d1, d2, d3, d4] }
  | _ => none }
def FnExactHoldWrongFalsely : Prop := fnExactHoldRow.holds Try.pinned (OpenSpec.ofChange fnExactHoldWrong)

/-- 'laws.FnExactRelease': WHATEVER THE INPUT: true; the input reads as it did. -/
def fnExactReleaseSpec : ChangeSpec := { name := "fnExactRelease", fn := fun _ => fun
  | [d1, d2, d3, d4] => { results := [.lit (.bool true)], args := [d1, d2, d3, d4] }
  | _ => none }
def fnExactReleaseRow : OpenClaim := { program := "yteajnkondkfmgaa", sum := "05591e4fc61ec4ed840f4ed883c5163ed066d2db2d34e0537b74dc8eefadd277", func := "loop.example/g00179/laws.FnExactRelease", spec := "fnExactRelease", apart := false }
def FnExactReleaseSaid : Prop := fnExactReleaseRow.holds Try.pinned (OpenSpec.ofChange fnExactReleaseSpec)

/-- ITS FALSE NEIGHBOUR: 'it returns false'. Refute it at one input. -/
def fnExactReleaseWrong : ChangeSpec := { name := "fnExactRelease", fn := fun _ => fun
  | [d1, d2, d3, d4] => { results := [.lit (.bool false)], args := [d1, d2, d3, d4] }
  | _ => none }
def FnExactReleaseWrongFalsely : Prop := fnExactReleaseRow.holds Try.pinned (OpenSpec.ofChange fnExactReleaseWrong)

/-- 'laws.FnExactTakeOut': WHATEVER THE INPUT: true; the input reads as it did. -/
def fnExactTakeOutSpec : ChangeSpec := { name := "fnExactTakeOut", fn := fun _ => fun
  | [d1, d2, d3, d4] => { results := [.lit (.bool true)], args := [d1, d2, d3, d4] }
  | _ => none }
def fnExactTakeOutRow : OpenClaim := { program := "yteajnkondkfmgaa", sum := "05591e4fc61ec4ed840f4ed883c5163ed066d2db2d34e0537b74dc8eefadd277", func := "loop.example/g00179/laws.FnExactTakeOut", spec := "fnExactTakeOut", apart := false }
def FnExactTakeOutSaid : Prop := fnExactTakeOutRow.holds Try.pinned (OpenSpec.ofChange fnExactTakeOutSpec)

/-- ITS FALSE NEIGHBOUR: 'it returns false'. Refute it at one input. -/
def fnExactTakeOutWrong : ChangeSpec := { name := "fnExactTakeOut", fn := fun _ => fun
  | [d1, d2, d3, d4] => { results := [.lit (.bool false)], args := [d1, d2, d3, d4] }
  | _ => none }
def FnExactTakeOutWrongFalsely : Prop := fnExactTakeOutRow.holds Try.pinned (OpenSpec.ofChange fnExactTakeOutWrong)

/-- 'laws.FnPicks': WHATEVER THE INPUT: true; the input reads as it did. -/
def fnPicksSpec : ChangeSpec := { name := "fnPicks", fn := fun _ => fun
  | [d] => { results := [.lit (.bool true)], args := [d] }
  | _ => none }
def fnPicksRow : OpenClaim := { program := "yteajnkondkfmgaa", sum := "05591e4fc61ec4ed840f4ed883c5163ed066d2db2d34e0537b74dc8eefadd277", func := "loop.example/g00179/laws.FnPicks", spec := "fnPicks", unfollowed := true, recurses := true, apart := false }
def FnPicksSaid : Prop := fnPicksRow.holds Try.pinned (OpenSpec.ofChange fnPicksSpec)

/-- ITS FALSE NEIGHBOUR: 'it returns false'. Refute it at one input. -/
def fnPicksWrong : ChangeSpec := { name := "fnPicks", fn := fun _ => fun
  | [d] => { results := [.lit (.bool false)], args := [d] }
  | _ => none }
def FnPicksWrongFalsely : Prop := fnPicksRow.holds Try.pinned (OpenSpec.ofChange fnPicksWrong)

/-- 'laws.FnEach': WHATEVER THE INPUT: true; the input reads as it did. -/
def fnEachSpec : ChangeSpec := { name := "fnEach", fn := fun _ => fun
  | [d] => { results := [.lit (.bool true)], args := [d] }
  | _ => none }
def fnEachRow : OpenClaim := { program := "yteajnkondkfmgaa", sum := "05591e4fc61ec4ed840f4ed883c5163ed066d2db2d34e0537b74dc8eefadd277", func := "loop.example/g00179/laws.FnEach", spec := "fnEach", unfollowed := true, recurses := true, apart := false }
def FnEachSaid : Prop := fnEachRow.holds Try.pinned (OpenSpec.ofChange fnEachSpec)

/-- ITS FALSE NEIGHBOUR: 'it returns false'. Refute it at one input. -/
def fnEachWrong : ChangeSpec := { name := "fnEach", fn := fun _ => fun
  | [d] => { results := [.lit (.bool false)], args := [d] }
  | _ => none }
def FnEachWrongFalsely : Prop := fnEachRow.holds Try.pinned (OpenSpec.ofChange fnEachWrong)

/-- 'laws.FnExactHoldAll': WHATEVER THE INPUT: true; the input reads as it did. -/
def fnExactHoldAllSpec : ChangeSpec := { name := "fnExactHoldAll", fn := fun _ => fun
  | [d1, d2] => { results := [.lit (.bool true)], args := [d1, d2] }
  | _ => none }
def fnExactHoldAllRow : OpenClaim := { program := "yteajnkondkfmgaa", sum := "05591e4fc61ec4ed840f4ed883c5163ed066d2db2d34e0537b74dc8eefadd277", func := "loop.example/g00179/laws.FnExactHoldAll", spec := "fnExactHoldAll", unfollowed := true, recurses := true, apart := false }
def FnExactHoldAllSaid : Prop := fnExactHoldAllRow.holds Try.pinned (OpenSpec.ofChange fnExactHoldAllSpec)

/-- ITS FALSE NEIGHBOUR: 'it returns false'. Refute it at one input. -/
def fnExactHoldAllWrong : ChangeSpec := { name := "fnExactHoldAll", fn := fun _ => fun
  | [d1, d2] => { results := [.lit (.bool false)], args := [d1, d2] }
  | _ => none }
def FnExactHoldAllWrongFalsely : Prop := fnExactHoldAllRow.holds Try.pinned (OpenSpec.ofChange fnExactHoldAllWrong)

/-- 'laws.FnExactReleaseAll': WHATEVER THE INPUT: true; the input reads as it did. -/
def fnExactReleaseAllSpec : ChangeSpec := { name := "fnExactReleaseAll", fn := fun _ => fun
  | [d1, d2] => { results := [.lit (.bool true)], args := [d1, d2] }
  | _ => none }
def fnExactReleaseAllRow : OpenClaim := { program := "yteajnkondkfmgaa", sum := "05591e4fc61ec4ed840f4ed883c5163ed066d2db2d34e0537b74dc8eefadd277", func := "loop.example/g00179/laws.FnExactReleaseAll", spec := "fnExactReleaseAll", unfollowed := true, recurses := true, apart := false }
def FnExactReleaseAllSaid : Prop := fnExactReleaseAllRow.holds Try.pinned (OpenSpec.ofChange fnExactReleaseAllSpec)

/-- ITS FALSE NEIGHBOUR: 'it returns false'. Refute it at one input. -/
def fnExactReleaseAllWrong : ChangeSpec := { name := "fnExactReleaseAll", fn := fun _ => fun
  | [d1, d2] => { results := [.lit (.bool false)], args := [d1, d2] }
  | _ => none }
def FnExactReleaseAllWrongFalsely : Prop := fnExactReleaseAllRow.holds Try.pinned (OpenSpec.ofChange fnExactReleaseAllWrong)

/-- 'laws.FnExactTakeAll': WHATEVER THE INPUT: true; the input reads as it did. -/
def fnExactTakeAllSpec : ChangeSpec := { name := "fnExactTakeAll", fn := fun _ => fun
  | [d1, d2] => { results := [.lit (.bool true)], args := [d1, d2] }
  | _ => none }
def fnExactTakeAllRow : OpenClaim := { program := "yteajnkondkfmgaa", sum := "05591e4fc61ec4ed840f4ed883c5163ed066d2db2d34e0537b74dc8eefadd277", func := "loop.example/g00179/laws.FnExactTakeAll", spec := "fnExactTakeAll", unfollowed := true, recurses := true, apart := false }
def FnExactTakeAllSaid : Prop := fnExactTakeAllRow.holds Try.pinned (OpenSpec.ofChange fnExactTakeAllSpec)

/-- ITS FALSE NEIGHBOUR: 'it returns false'. Refute it at one input. -/
def fnExactTakeAllWrong : ChangeSpec := { name := "fnExactTakeAll", fn := fun _ => fun
  | [d1, d2] => { results := [.lit (.bool false)], args := [d1, d2] }
  | _ => none }
def FnExactTakeAllWrongFalsely : Prop := fnExactTakeAllRow.holds Try.pinned (OpenSpec.ofChange fnExactTakeAllWrong)

/-- 'laws.FnExactPicks': WHATEVER THE INPUT: true; the input reads as it did. -/
def fnExactPicksSpec : ChangeSpec := { name := "fnExactPicks", fn := fun _ => fun
  | [d1, d2] => { results := [.lit (.bool true)], args := [d1, d2] }
  | _ => none }
def fnExactPicksRow : OpenClaim := { program := "yteajnkondkfmgaa", sum := "05591e4fc61ec4ed840f4ed883c5163ed066d2db2d34e0537b74dc8eefadd277", func := "loop.example/g00179/laws.FnExactPicks", spec := "fnExactPicks", unfollowed := true, recurses := true, apart := false }
def FnExactPicksSaid : Prop := fnExactPicksRow.holds Try.pinned (OpenSpec.ofChange fnExactPicksSpec)

/-- ITS FALSE NEIGHBOUR: 'it returns false'. Refute it at one input. -/
def fnExactPicksWrong : ChangeSpec := { name := "fnExactPicks", fn := fun _ => fun
  | [d1, d2] => { results := [.lit (.bool false)], args := [d1, d2] }
  | _ => none }
def FnExactPicksWrongFalsely : Prop := fnExactPicksRow.holds Try.pinned (OpenSpec.ofChange fnExactPicksWrong)

/- THE SECOND FORM. 'bulk': how many values and letters a reading holds, each counted each time it is reached (what is shared counts as often as it is met; a slice's spare places count too). A statement '..UptoSaid' is the law's where the arguments, and the package variables that the reading takes, are together of bulk at most 1048576: NARROWER than '..Said'. Prove '..Said' where nothing that the law and all that it calls make is longer than what came in: it says more and counts as full. Else prove '..UptoSaid'. A law counts once. -/
mutual
def uptoBulk {H : Type} : DataW H → Nat
  | .lit (.string bytes) => bytes.length + 1
  | .lit _ => 1
  | .nil => 1
  | .ptr d => uptoBulk d + 1
  | .slice elems spare => uptoBulkAll elems + uptoBulkAll spare + 1
  | .agg parts => uptoBulkAll parts + 1
  | .iface _ d => uptoBulk d + 1
  | .map entries => uptoBulkEntries entries + 1
  | .held _ => 1
def uptoBulkAll {H : Type} : List (DataW H) → Nat
  | [] => 0
  | d :: r => uptoBulk d + uptoBulkAll r
def uptoBulkEntries {H : Type} : List (Lit × DataW H) → Nat
  | [] => 0
  | x :: r => uptoBulkEntry x + uptoBulkEntries r
def uptoBulkEntry {H : Type} : Lit × DataW H → Nat
  | (.string bytes, d) => bytes.length + uptoBulk d + 1
  | (_, d) => uptoBulk d + 1
 end
def uptoSmall : (H : Type) → List (DataW H) → Bool := fun _ ds => decide (uptoBulkAll ds ≤ 1048576)
def OpenSpec.upto (s : _root_.Go.ChangeSpec) : _root_.Go.OpenSpec := { _root_.Go.OpenSpec.ofChange s with cond := some uptoSmall }

/-- 'laws.FnHeld', WHERE WHAT IT READS IS OF BULK AT MOST 1048576: true; the input reads as it did. -/
def fnHeldUptoRow : OpenClaim := { program := "yteajnkondkfmgaa", sum := "05591e4fc61ec4ed840f4ed883c5163ed066d2db2d34e0537b74dc8eefadd277", func := "loop.example/g00179/laws.FnHeld", spec := "fnHeld", apart := false, narrowed := true }
def FnHeldUptoSaid : Prop := fnHeldUptoRow.holds Try.pinned (OpenSpec.upto fnHeldSpec)

/-- 'laws.FnTaken', WHERE WHAT IT READS IS OF BULK AT MOST 1048576: true; the input reads as it did. -/
def fnTakenUptoRow : OpenClaim := { program := "yteajnkondkfmgaa", sum := "05591e4fc61ec4ed840f4ed883c5163ed066d2db2d34e0537b74dc8eefadd277", func := "loop.example/g00179/laws.FnTaken", spec := "fnTaken", apart := false, narrowed := true }
def FnTakenUptoSaid : Prop := fnTakenUptoRow.holds Try.pinned (OpenSpec.upto fnTakenSpec)

/-- 'laws.FnExactPutIn', WHERE WHAT IT READS IS OF BULK AT MOST 1048576: true; the input reads as it did. -/
def fnExactPutInUptoRow : OpenClaim := { program := "yteajnkondkfmgaa", sum := "05591e4fc61ec4ed840f4ed883c5163ed066d2db2d34e0537b74dc8eefadd277", func := "loop.example/g00179/laws.FnExactPutIn", spec := "fnExactPutIn", apart := false, narrowed := true }
def FnExactPutInUptoSaid : Prop := fnExactPutInUptoRow.holds Try.pinned (OpenSpec.upto fnExactPutInSpec)

/-- 'laws.FnExactHold', WHERE WHAT IT READS IS OF BULK AT MOST 1048576: true; the input reads as it did. -/
def fnExactHoldUptoRow : OpenClaim := { program := "yteajnkondkfmgaa", sum := "05591e4fc61ec4ed840f4ed883c5163ed066d2db2d34e0537b74dc8eefadd277", func := "loop.example/g00179/laws.FnExactHold", spec := "fnExactHold", apart := false, narrowed := true }
def FnExactHoldUptoSaid : Prop := fnExactHoldUptoRow.holds Try.pinned (OpenSpec.upto fnExactHoldSpec)

/-- 'laws.FnExactRelease', WHERE WHAT IT READS IS OF BULK AT MOST 1048576: true; the input reads as it did. -/
def fnExactReleaseUptoRow : OpenClaim := { program := "yteajnkondkfmgaa", sum := "05591e4fc61ec4ed840f4ed883c5163ed066d2db2d34e0537b74dc8eefadd277", func := "loop.example/g00179/laws.FnExactRelease", spec := "fnExactRelease", apart := false, narrowed := true }
def FnExactReleaseUptoSaid : Prop := fnExactReleaseUptoRow.holds Try.pinned (OpenSpec.upto fnExactReleaseSpec)

/-- 'laws.FnExactTakeOut', WHERE WHAT IT READS IS OF BULK AT MOST 1048576: true; the input reads as it did. -/
def fnExactTakeOutUptoRow : OpenClaim := { program := "yteajnkondkfmgaa", sum := "05591e4fc61ec4ed840f4ed883c5163ed066d2db2d34e0537b74dc8eefadd277", func := "loop.example/g00179/laws.FnExactTakeOut", spec := "fnExactTakeOut", apart := false, narrowed := true }
def FnExactTakeOutUptoSaid : Prop := fnExactTakeOutUptoRow.holds Try.pinned (OpenSpec.upto fnExactTakeOutSpec)

/-- 'laws.FnPicks', WHERE WHAT IT READS IS OF BULK AT MOST 1048576: true; the input reads as it did. -/
def fnPicksUptoRow : OpenClaim := { program := "yteajnkondkfmgaa", sum := "05591e4fc61ec4ed840f4ed883c5163ed066d2db2d34e0537b74dc8eefadd277", func := "loop.example/g00179/laws.FnPicks", spec := "fnPicks", unfollowed := true, recurses := true, apart := false, narrowed := true }
def FnPicksUptoSaid : Prop := fnPicksUptoRow.holds Try.pinned (OpenSpec.upto fnPicksSpec)

/-- 'laws.FnEach', WHERE WHAT IT READS IS OF BULK AT MOST 1048576: true; the input reads as it did. -/
def fnEachUptoRow : OpenClaim := { program := "yteajnkondkfmgaa", sum := "05591e4fc61ec4ed840f4ed883c5163ed066d2db2d34e0537b74dc8eefadd277", func := "loop.example/g00179/laws.FnEach", spec := "fnEach", unfollowed := true, recurses := true, apart := false, narrowed := true }
def FnEachUptoSaid : Prop := fnEachUptoRow.holds Try.pinned (OpenSpec.upto fnEachSpec)

/-- 'laws.FnExactHoldAll', WHERE WHAT IT READS IS OF BULK AT MOST 1048576: true; the input reads as it did. -/
def fnExactHoldAllUptoRow : OpenClaim := { program := "yteajnkondkfmgaa", sum := "05591e4fc61ec4ed840f4ed883c5163ed066d2db2d34e0537b74dc8eefadd277", func := "loop.example/g00179/laws.FnExactHoldAll", spec := "fnExactHoldAll", unfollowed := true, recurses := true, apart := false, narrowed := true }
def FnExactHoldAllUptoSaid : Prop := fnExactHoldAllUptoRow.holds Try.pinned (OpenSpec.upto fnExactHoldAllSpec)

/-- 'laws.FnExactReleaseAll', WHERE WHAT IT READS IS OF BULK AT MOST 1048576: true; the input reads as it did. -/
def fnExactReleaseAllUptoRow : OpenClaim := { program := "yteajnkondkfmgaa", sum := "05591e4fc61ec4ed840f4ed883c5163ed066d2db2d34e0537b74dc8eefadd277", func := "loop.example/g00179/laws.FnExactReleaseAll", spec := "fnExactReleaseAll", unfollowed := true, recurses := true, apart := false, narrowed := true }
def FnExactReleaseAllUptoSaid : Prop := fnExactReleaseAllUptoRow.holds Try.pinned (OpenSpec.upto fnExactReleaseAllSpec)

/-- 'laws.FnExactTakeAll', WHERE WHAT IT READS IS OF BULK AT MOST 1048576: true; the input reads as it did. -/
def fnExactTakeAllUptoRow : OpenClaim := { program := "yteajnkondkfmgaa", sum := "05591e4fc61ec4ed840f4ed883c5163ed066d2db2d34e0537b74dc8eefadd277", func := "loop.example/g00179/laws.FnExactTakeAll", spec := "fnExactTakeAll", unfollowed := true, recurses := true, apart := false, narrowed := true }
def FnExactTakeAllUptoSaid : Prop := fnExactTakeAllUptoRow.holds Try.pinned (OpenSpec.upto fnExactTakeAllSpec)

/-- 'laws.FnExactPicks', WHERE WHAT IT READS IS OF BULK AT MOST 1048576: true; the input reads as it did. -/
def fnExactPicksUptoRow : OpenClaim := { program := "yteajnkondkfmgaa", sum := "05591e4fc61ec4ed840f4ed883c5163ed066d2db2d34e0537b74dc8eefadd277", func := "loop.example/g00179/laws.FnExactPicks", spec := "fnExactPicks", unfollowed := true, recurses := true, apart := false, narrowed := true }
def FnExactPicksUptoSaid : Prop := fnExactPicksUptoRow.holds Try.pinned (OpenSpec.upto fnExactPicksSpec)

end Rows
end Go.Proofs.Yteajnkondkfmgaa
