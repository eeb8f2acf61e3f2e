/-
  No cell of these rows narrows 'for every input' (looked for: loops, veiled, ifaces, maps, wideKeys, modest, calm, conditions, laid).
  DERIVED. THE GIVEN ROWS OF THIS SEAT. 12 by the template 'for every input the law returns true; each argument reads behind the call as it read before'; 0 by the template 'total and deterministic' (their statements: YtdlkmjilakaklaaTotals.lean).
  GIVEN WITH THE SEED: the statements are not yours to turn. If you find one false, say at which input.
  Laid BY PROGRAM, IN A SANDBOX (cutbox-rows.mjs): the forced cells as the released guide's own fill.sh prints them over the translation 58c231ce27def478… (all of the seat's roots in one cut). By AI agents, Wed Nov 11 2026. No macro, syntax, notation, axiom, sorry.
-/
import Derived.Test.YtdlkmjilakaklaaChecked
import GoSem.Claim
import GoSem.ClaimJoined
import GoSem.ClaimMapViews
import Derived.JoinedTies
import Derived.KernelRfl
namespace Go.Proofs.Ytdlkmjilakaklaa
/- THE CELL 'sum', in the pinned program and in every row, IS THE sha256 OF THE DUMP (.gsa) THAT YtdlkmjilakaklaaProg.lean LOADS. Nothing in Lean hashes anything: it is a label: what it is worth is what the hold of that sum in a sandbox is worth. -/
noncomputable def Try.pinned : Pinned := { name := "ytdlkmjilakaklaa", sum := "58c231ce27def4789b889c85a27cc11ad08f726aec81177f37ee276f7d3bf3e8", checked := Try.checked }
namespace Rows
def none {H : Type} : Left H := { results := [], args := [] }

/-- 'laws.FnExactCuts': WHATEVER THE INPUT: true; the input reads as it did. -/
def fnExactCutsSpec : ChangeSpec := { name := "fnExactCuts", fn := fun _ => fun
  | [d] => { results := [.lit (.bool true)], args := [d] }
  | _ => none }
def fnExactCutsRow : OpenClaim := { program := "ytdlkmjilakaklaa", sum := "58c231ce27def4789b889c85a27cc11ad08f726aec81177f37ee276f7d3bf3e8", func := "loop.example/g00179/laws.FnExactCuts", spec := "fnExactCuts", apart := false }
def FnExactCutsSaid : Prop := fnExactCutsRow.holds Try.pinned (OpenSpec.ofChange fnExactCutsSpec)

/-- ITS FALSE NEIGHBOUR: 'it returns false'. Refute it at one input. -/
def fnExactCutsWrong : ChangeSpec := { name := "fnExactCuts", fn := fun _ => fun
  | [d] => { results := [.lit (.bool false)], args := [d] }
  | _ => none }
def FnExactCutsWrongFalsely : Prop := fnExactCutsRow.holds Try.pinned (OpenSpec.ofChange fnExactCutsWrong)

/-- 'laws.FnExactSound': WHATEVER THE INPUT: true; the input reads as it did. -/
def fnExactSoundSpec : ChangeSpec := { name := "fnExactSound", fn := fun _ => fun
  | [d] => { results := [.lit (.bool true)], args := [d] }
  | _ => none }
def fnExactSoundRow : OpenClaim := { program := "ytdlkmjilakaklaa", sum := "58c231ce27def4789b889c85a27cc11ad08f726aec81177f37ee276f7d3bf3e8", func := "loop.example/g00179/laws.FnExactSound", spec := "fnExactSound", apart := false }
def FnExactSoundSaid : Prop := fnExactSoundRow.holds Try.pinned (OpenSpec.ofChange fnExactSoundSpec)

/-- ITS FALSE NEIGHBOUR: 'it returns false'. Refute it at one input. -/
def fnExactSoundWrong : ChangeSpec := { name := "fnExactSound", fn := fun _ => fun
  | [d] => { results := [.lit (.bool false)], args := [d] }
  | _ => none }
def FnExactSoundWrongFalsely : Prop := fnExactSoundRow.holds Try.pinned (OpenSpec.ofChange fnExactSoundWrong)

/-- 'laws.FnFloors': WHATEVER THE INPUT: true; the input reads as it did. -/
def fnFloorsSpec : ChangeSpec := { name := "fnFloors", fn := fun _ => fun
  | [d] => { results := [.lit (.bool true)], args := [d] }
  | _ => none }
def fnFloorsRow : OpenClaim := { program := "ytdlkmjilakaklaa", sum := "58c231ce27def4789b889c85a27cc11ad08f726aec81177f37ee276f7d3bf3e8", func := "loop.example/g00179/laws.FnFloors", spec := "fnFloors", inPlace := ["internal/bytealg.IndexByteString", "internal/bytealg.IndexString"], named := ["internal/bytealg.MaxLen"], apart := false }
def FnFloorsSaid : Prop := fnFloorsRow.holds Try.pinned (OpenSpec.ofChange fnFloorsSpec)

/-- ITS FALSE NEIGHBOUR: 'it returns false'. Refute it at one input. -/
def fnFloorsWrong : ChangeSpec := { name := "fnFloors", fn := fun _ => fun
  | [d] => { results := [.lit (.bool false)], args := [d] }
  | _ => none }
def FnFloorsWrongFalsely : Prop := fnFloorsRow.holds Try.pinned (OpenSpec.ofChange fnFloorsWrong)

/-- 'laws.FnSteps': WHATEVER THE INPUT: true; the input reads as it did. -/
def fnStepsSpec : ChangeSpec := { name := "fnSteps", fn := fun _ => fun
  | [d] => { results := [.lit (.bool true)], args := [d] }
  | _ => none }
def fnStepsRow : OpenClaim := { program := "ytdlkmjilakaklaa", sum := "58c231ce27def4789b889c85a27cc11ad08f726aec81177f37ee276f7d3bf3e8", func := "loop.example/g00179/laws.FnSteps", spec := "fnSteps", apart := false }
def FnStepsSaid : Prop := fnStepsRow.holds Try.pinned (OpenSpec.ofChange fnStepsSpec)

/-- ITS FALSE NEIGHBOUR: 'it returns false'. Refute it at one input. -/
def fnStepsWrong : ChangeSpec := { name := "fnSteps", fn := fun _ => fun
  | [d] => { results := [.lit (.bool false)], args := [d] }
  | _ => none }
def FnStepsWrongFalsely : Prop := fnStepsRow.holds Try.pinned (OpenSpec.ofChange fnStepsWrong)

/-- 'laws.FnHeld': WHATEVER THE INPUT: true; the input reads as it did. -/
def fnHeldSpec : ChangeSpec := { name := "fnHeld", fn := fun _ => fun
  | [d] => { results := [.lit (.bool true)], args := [d] }
  | _ => none }
def fnHeldRow : OpenClaim := { program := "ytdlkmjilakaklaa", sum := "58c231ce27def4789b889c85a27cc11ad08f726aec81177f37ee276f7d3bf3e8", func := "loop.example/g00179/laws.FnHeld", spec := "fnHeld", apart := false }
def FnHeldSaid : Prop := fnHeldRow.holds Try.pinned (OpenSpec.ofChange fnHeldSpec)

/-- ITS FALSE NEIGHBOUR: 'it returns false'. Refute it at one input. -/
def fnHeldWrong : ChangeSpec := { name := "fnHeld", fn := fun _ => fun
  | [d] => { results := [.lit (.bool false)], args := [d] }
  | _ => none }
def FnHeldWrongFalsely : Prop := fnHeldRow.holds Try.pinned (OpenSpec.ofChange fnHeldWrong)

/-- 'laws.FnWays': WHATEVER THE INPUT: true; the input reads as it did. -/
def fnWaysSpec : ChangeSpec := { name := "fnWays", fn := fun _ => fun
  | [d] => { results := [.lit (.bool true)], args := [d] }
  | _ => none }
def fnWaysRow : OpenClaim := { program := "ytdlkmjilakaklaa", sum := "58c231ce27def4789b889c85a27cc11ad08f726aec81177f37ee276f7d3bf3e8", func := "loop.example/g00179/laws.FnWays", spec := "fnWays", apart := false }
def FnWaysSaid : Prop := fnWaysRow.holds Try.pinned (OpenSpec.ofChange fnWaysSpec)

/-- ITS FALSE NEIGHBOUR: 'it returns false'. Refute it at one input. -/
def fnWaysWrong : ChangeSpec := { name := "fnWays", fn := fun _ => fun
  | [d] => { results := [.lit (.bool false)], args := [d] }
  | _ => none }
def FnWaysWrongFalsely : Prop := fnWaysRow.holds Try.pinned (OpenSpec.ofChange fnWaysWrong)

/-- 'laws.FnCuts': WHATEVER THE INPUT: true; the input reads as it did. -/
def fnCutsSpec : ChangeSpec := { name := "fnCuts", fn := fun _ => fun
  | [d] => { results := [.lit (.bool true)], args := [d] }
  | _ => none }
def fnCutsRow : OpenClaim := { program := "ytdlkmjilakaklaa", sum := "58c231ce27def4789b889c85a27cc11ad08f726aec81177f37ee276f7d3bf3e8", func := "loop.example/g00179/laws.FnCuts", spec := "fnCuts", apart := false }
def FnCutsSaid : Prop := fnCutsRow.holds Try.pinned (OpenSpec.ofChange fnCutsSpec)

/-- ITS FALSE NEIGHBOUR: 'it returns false'. Refute it at one input. -/
def fnCutsWrong : ChangeSpec := { name := "fnCuts", fn := fun _ => fun
  | [d] => { results := [.lit (.bool false)], args := [d] }
  | _ => none }
def FnCutsWrongFalsely : Prop := fnCutsRow.holds Try.pinned (OpenSpec.ofChange fnCutsWrong)

/-- 'laws.FnTaken': WHATEVER THE INPUT: true; the input reads as it did. -/
def fnTakenSpec : ChangeSpec := { name := "fnTaken", fn := fun _ => fun
  | [d] => { results := [.lit (.bool true)], args := [d] }
  | _ => none }
def fnTakenRow : OpenClaim := { program := "ytdlkmjilakaklaa", sum := "58c231ce27def4789b889c85a27cc11ad08f726aec81177f37ee276f7d3bf3e8", func := "loop.example/g00179/laws.FnTaken", spec := "fnTaken", apart := false }
def FnTakenSaid : Prop := fnTakenRow.holds Try.pinned (OpenSpec.ofChange fnTakenSpec)

/-- ITS FALSE NEIGHBOUR: 'it returns false'. Refute it at one input. -/
def fnTakenWrong : ChangeSpec := { name := "fnTaken", fn := fun _ => fun
  | [d] => { results := [.lit (.bool false)], args := [d] }
  | _ => none }
def FnTakenWrongFalsely : Prop := fnTakenRow.holds Try.pinned (OpenSpec.ofChange fnTakenWrong)

/-- 'laws.FnExactTurns': WHATEVER THE INPUT: true; the input reads as it did. -/
def fnExactTurnsSpec : ChangeSpec := { name := "fnExactTurns", fn := fun _ => fun
  | [d] => { results := [.lit (.bool true)], args := [d] }
  | _ => none }
def fnExactTurnsRow : OpenClaim := { program := "ytdlkmjilakaklaa", sum := "58c231ce27def4789b889c85a27cc11ad08f726aec81177f37ee276f7d3bf3e8", func := "loop.example/g00179/laws.FnExactTurns", spec := "fnExactTurns", inPlace := ["internal/reflectlite.ValueOf", "internal/reflectlite.Swapper", "(internal/reflectlite.Value).Len"], unfollowed := true, recurses := true, apart := false }
def FnExactTurnsSaid : Prop := fnExactTurnsRow.holds Try.pinned (OpenSpec.ofChange fnExactTurnsSpec)

/-- ITS FALSE NEIGHBOUR: 'it returns false'. Refute it at one input. -/
def fnExactTurnsWrong : ChangeSpec := { name := "fnExactTurns", fn := fun _ => fun
  | [d] => { results := [.lit (.bool false)], args := [d] }
  | _ => none }
def FnExactTurnsWrongFalsely : Prop := fnExactTurnsRow.holds Try.pinned (OpenSpec.ofChange fnExactTurnsWrong)

/-- 'laws.FnExactPutIn': WHATEVER THE INPUT: true; the input reads as it did. -/
def fnExactPutInSpec : ChangeSpec := { name := "fnExactPutIn", fn := fun _ => fun
  | [d1, d2, d3, d4] => { results := [.lit (.bool true)], args := [d1, d2, d3, d4] }
  | _ => none }
def fnExactPutInRow : OpenClaim := { program := "ytdlkmjilakaklaa", sum := "58c231ce27def4789b889c85a27cc11ad08f726aec81177f37ee276f7d3bf3e8", func := "loop.example/g00179/laws.FnExactPutIn", spec := "fnExactPutIn", apart := false }
def FnExactPutInSaid : Prop := fnExactPutInRow.holds Try.pinned (OpenSpec.ofChange fnExactPutInSpec)

/-- ITS FALSE NEIGHBOUR: 'it returns false'. Refute it at one input. -/
def fnExactPutInWrong : ChangeSpec := { name := "fnExactPutIn", fn := fun _ => fun
  | [d1, d2, d3, d4] => { results := [.lit (.bool false)], args := [d1, d2, d3, d4] }
  | _ => none }
def FnExactPutInWrongFalsely : Prop := fnExactPutInRow.holds Try.pinned (OpenSpec.ofChange fnExactPutInWrong)

/-- 'laws.FnExactHold': WHATEVER THE INPUT: true; the input reads as it did. -/
def fnExactHoldSpec : ChangeSpec := { name := "fnExactHold", fn := fun _ => fun
  | [d1, d2, d3, d4] => { results := [.lit (.bool true)], args := [d1, d2, d3, d4] }
  | _ => none }
def fnExactHoldRow : OpenClaim := { program := "ytdlkmjilakaklaa", sum := "58c231ce27def4789b889c85a27cc11ad08f726aec81177f37ee276f7d3bf3e8", func := "loop.example/g00179/laws.FnExactHold", spec := "fnExactHold", apart := false }
def FnExactHoldSaid : Prop := fnExactHoldRow.holds Try.pinned (OpenSpec.ofChange fnExactHoldSpec)

/-- ITS FALSE NEIGHBOUR: 'it returns false'. Refute it at one input. -/
def fnExactHoldWrong : ChangeSpec := { name := "fnExactHold", fn := fun _ => fun
  | [d1, d2, d3, d4] => { results := [.lit (.bool false)], args := [d1, d2, d3, d4] }
  | _ => none }
def FnExactHoldWrongFalsely : Prop := fnExactHoldRow.holds Try.pinned (OpenSpec.ofChange fnExactHoldWrong)

/-- 'laws.FnExactRelease': WHATEVER THE INPUT: true; the input reads as it did. -/
def fnExactReleaseSpec : ChangeSpec := { name := "fnExactRelease", fn := fun _ => fun
  | [d1, d2, d3, d4] => { results := [.lit (.bool true)], args := [d1, d2, d3, d4] }
  | _ => none }
def fnExactReleaseRow : OpenClaim := { program := "ytdlkmjilakaklaa", sum := "58c231ce27def4789b889c85a27cc11ad08f726aec81177f37ee276f7d3bf3e8", func := "loop.example/g00179/laws.FnExactRelease", spec := "fnExactRelease", apart := false }
def FnExactReleaseSaid : Prop := fnExactReleaseRow.holds Try.pinned (OpenSpec.ofChange fnExactReleaseSpec)

/-- ITS FALSE NEIGHBOUR: 'it returns false'. Refute it at one input. -/
def fnExactReleaseWrong : ChangeSpec := { name := "fnExactRelease", fn := fun _ => fun
  | [d1, d2, d3, d4] => { results := [.lit (.bool false)], args := [d1, d2, d3, d4] }
  | _ => none }
def FnExactReleaseWrongFalsely : Prop := fnExactReleaseRow.holds Try.pinned (OpenSpec.ofChange fnExactReleaseWrong)

/- THE SECOND FORM. 'bulk': how many values and letters a reading holds, each counted each time it is reached (what is shared counts as often as it is met; a slice's spare places count too). A statement '..UptoSaid' is the law's where the arguments, and the package variables that the reading takes, are together of bulk at most 1048576: NARROWER than '..Said'. Prove '..Said' where nothing that the law and all that it calls make is longer than what came in: it says more and counts as full. Else prove '..UptoSaid'. A law counts once. -/
mutual
def uptoBulk {H : Type} : DataW H → Nat
  | .lit (.string bytes) => bytes.length + 1
  | .lit _ => 1
  | .nil => 1
  | .ptr d => uptoBulk d + 1
  | .slice elems spare => uptoBulkAll elems + uptoBulkAll spare + 1
  | .agg parts => uptoBulkAll parts + 1
  | .iface _ d => uptoBulk d + 1
  | .map entries => uptoBulkEntries entries + 1
  | .held _ => 1
def uptoBulkAll {H : Type} : List (DataW H) → Nat
  | [] => 0
  | d :: r => uptoBulk d + uptoBulkAll r
def uptoBulkEntries {H : Type} : List (Lit × DataW H) → Nat
  | [] => 0
  | x :: r => uptoBulkEntry x + uptoBulkEntries r
def uptoBulkEntry {H : Type} : Lit × DataW H → Nat
  | (.string bytes, d) => bytes.length + uptoBulk d + 1
  | (_, d) => uptoBulk d + 1
 end
def uptoSmall : (H : Type) → List (DataW H) → Bool := fun _ ds => decide (uptoBulkAll ds ≤ 1048576)
def OpenSpec.upto (s : _root_.Go.ChangeSpec) : _root_.Go.OpenSpec := { _root_.Go.OpenSpec.ofChange s with cond := some uptoSmall }

/-- 'laws.FnExactCuts', WHERE WHAT IT READS IS OF BULK AT MOST 1048576: true; the input reads as it did. -/
def fnExactCutsUptoRow : OpenClaim := { program := "ytdlkmjilakaklaa", sum := "58c231ce27def4789b889c85a27cc11ad08f726aec81177f37ee276f7d3bf3e8", func := "loop.example/g00179/laws.FnExactCuts", spec := "fnExactCuts", apart := false, narrowed := true }
def FnExactCutsUptoSaid : Prop := fnExactCutsUptoRow.holds Try.pinned (OpenSpec.upto fnExactCutsSpec)

/-- 'laws.FnExactSound', WHERE WHAT IT READS IS OF BULK AT MOST 1048576: true; the input reads as it did. -/
def fnExactSoundUptoRow : OpenClaim := { program := "ytdlkmjilakaklaa", sum := "58c231ce27def4789b889c85a27cc11ad08f726aec81177f37ee276f7d3bf3e8", func := "loop.example/g00179/laws.FnExactSound", spec := "fnExactSound", apart := false, narrowed := true }
def FnExactSoundUptoSaid : Prop := fnExactSoundUptoRow.holds Try.pinned (OpenSpec.upto fnExactSoundSpec)

/-- 'laws.FnFloors', WHERE WHAT IT READS IS OF BULK AT MOST 1048576: true; the input reads as it did. -/
def fnFloorsUptoRow : OpenClaim := { program := "ytdlkmjilakaklaa", sum := "58c231ce27def4789b889c85a27cc11ad08f726aec81177f37ee276f7d3bf3e8", func := "loop.example/g00179/laws.FnFloors", spec := "fnFloors", inPlace := ["internal/bytealg.IndexByteString", "internal/bytealg.IndexString"], named := ["internal/bytealg.MaxLen"], apart := false, narrowed := true }
def FnFloorsUptoSaid : Prop := fnFloorsUptoRow.holds Try.pinned (OpenSpec.upto fnFloorsSpec)

/-- 'laws.FnSteps', WHERE WHAT IT READS IS OF BULK AT MOST 1048576: true; the input reads as it did. -/
def fnStepsUptoRow : OpenClaim := { program := "ytdlkmjilakaklaa", sum := "58c231ce27def4789b889c85a27cc11ad08f726aec81177f37ee276f7d3bf3e8", func := "loop.example/g00179/laws.FnSteps", spec := "fnSteps", apart := false, narrowed := true }
def FnStepsUptoSaid : Prop := fnStepsUptoRow.holds Try.pinned (OpenSpec.upto fnStepsSpec)

/-- 'laws.FnHeld', WHERE WHAT IT READS IS OF BULK AT MOST 1048576: true; the input reads as it did. -/
def fnHeldUptoRow : OpenClaim := { program := "ytdlkmjilakaklaa", sum := "58c231ce27def4789b889c85a27cc11ad08f726aec81177f37ee276f7d3bf3e8", func := "loop.example/g00179/laws.FnHeld", spec := "fnHeld", apart := false, narrowed := true }
def FnHeldUptoSaid : Prop := fnHeldUptoRow.holds Try.pinned (OpenSpec.upto fnHeldSpec)

/-- 'laws.FnWays', WHERE WHAT IT READS IS OF BULK AT MOST 1048576: true; the input reads as it did. -/
def fnWaysUptoRow : OpenClaim := { program := "ytdlkmjilakaklaa", sum := "58c231ce27def4789b889c85a27cc11ad08f726aec81177f37ee276f7d3bf3e8", func := "loop.example/g00179/laws.FnWays", spec := "fnWays", apart := false, narrowed := true }
def FnWaysUptoSaid : Prop := fnWaysUptoRow.holds Try.pinned (OpenSpec.upto fnWaysSpec)

/-- 'laws.FnCuts', WHERE WHAT IT READS IS OF BULK AT MOST 1048576: true; the input reads as it did. -/
def fnCutsUptoRow : OpenClaim := { program := "ytdlkmjilakaklaa", sum := "58c231ce27def4789b889c85a27cc11ad08f726aec81177f37ee276f7d3bf3e8", func := "loop.example/g00179/laws.FnCuts", spec := "fnCuts", apart := false, narrowed := true }
def FnCutsUptoSaid : Prop := fnCutsUptoRow.holds Try.pinned (OpenSpec.upto fnCutsSpec)

/-- 'laws.FnTaken', WHERE WHAT IT READS IS OF BULK AT MOST 1048576: true; the input reads as it did. -/
def fnTakenUptoRow : OpenClaim := { program := "ytdlkmjilakaklaa", sum := "58c231ce27def4789b889c85a27cc11ad08f726aec81177f37ee276f7d3bf3e8", func := "loop.example/g00179/laws.FnTaken", spec := "fnTaken", apart := false, narrowed := true }
def FnTakenUptoSaid : Prop := fnTakenUptoRow.holds Try.pinned (OpenSpec.upto fnTakenSpec)

/-- 'laws.FnExactTurns', WHERE WHAT IT READS IS OF BULK AT MOST 1048576: true; the input reads as it did. -/
def fnExactTurnsUptoRow : OpenClaim := { program := "ytdlkmjilakaklaa", sum := "58c231ce27def4789b889c85a27cc11ad08f726aec81177f37ee276f7d3bf3e8", func := "loop.example/g00179/laws.FnExactTurns", spec := "fnExactTurns", inPlace := ["internal/reflectlite.ValueOf", "internal/reflectlite.Swapper", "(internal/reflectlite.Value).Len"], unfollowed := true, recurses := true, apart := false, narrowed := true }
def FnExactTurnsUptoSaid : Prop := fnExactTurnsUptoRow.holds Try.pinned (OpenSpec.upto fnExactTurnsSpec)

/-- 'laws.FnExactPutIn', WHERE WHAT IT READS IS OF BULK AT MOST 1048576: true; the input reads as it did. -/
def fnExactPutInUptoRow : OpenClaim := { program := "ytdlkmjilakaklaa", sum := "58c231ce27def4789b889c85a27cc11ad08f726aec81177f37ee276f7d3bf3e8", func := "loop.example/g00179/laws.FnExactPutIn", spec := "fnExactPutIn", apart := false, narrowed := true }
def FnExactPutInUptoSaid : Prop := fnExactPutInUptoRow.holds Try.pinned (OpenSpec.upto fnExactPutInSpec)

/-- 'laws.FnExactHold', WHERE WHAT IT READS IS OF BULK AT MOST 1048576: true; the input reads as it did. -/
def fnExactHoldUptoRow : OpenClaim := { program := "ytdlkmjilakaklaa", sum := "58c231ce27def4789b889c85a27cc11ad08f726aec81177f37ee276f7d3bf3e8", func := "loop.example/g00179/laws.FnExactHold", spec := "fnExactHold", apart := false, narrowed := true }
def FnExactHoldUptoSaid : Prop := fnExactHoldUptoRow.holds Try.pinned (OpenSpec.upto fnExactHoldSpec)

/-- 'laws.FnExactRelease', WHERE WHAT IT READS IS OF BULK AT MOST 1048576: true; the input reads as it did. -/
def fnExactReleaseUptoRow : OpenClaim := { program := "ytdlkmjilakaklaa", sum := "58c231ce27def4789b889c85a27cc11ad08f726aec81177f37ee276f7d3bf3e8", func := "loop.example/g00179/laws.FnExactRelease", spec := "fnExactRelease", apart := false, narrowed := true }
def FnExactReleaseUptoSaid : Prop := fnExactReleaseUptoRow.holds Try.pinned (OpenSpec.upto fnExactReleaseSpec)

end Rows
end Go.Proofs.Ytdlkmjilakaklaa
