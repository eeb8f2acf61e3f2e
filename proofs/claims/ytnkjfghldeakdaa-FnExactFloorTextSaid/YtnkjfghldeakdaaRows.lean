/-
  No cell of these rows narrows 'for every input' (looked for: loops, veiled, ifaces, maps, wideKeys, modest, calm, conditions, laid).
  DERIVED. THE GIVEN ROWS OF THIS SEAT. 7 by the template 'for every input the law returns true; each argument reads behind the call as it read before'; 0 by the template 'total and deterministic' (their statements: YtnkjfghldeakdaaTotals.lean).
  GIVEN WITH THE SEED: the statements are not yours to turn. If you find one false, say at which input.
  Laid BY PROGRAM, IN A SANDBOX (cutbox-rows.mjs): the forced cells as the released guide's own fill.sh prints them over the translation f63ad7f41d15202a… (all of the seat's roots in one cut). By AI agents, Wed Nov 11 2026. No macro, syntax, notation, axiom, sorry.
-/
import Derived.Test.YtnkjfghldeakdaaChecked
import GoSem.Claim
import GoSem.ClaimJoined
import GoSem.ClaimMapViews
import Derived.JoinedTies
import Derived.KernelRfl
namespace Go.Proofs.Ytnkjfghldeakdaa
/- THE CELL 'sum', in the pinned program and in every row, IS THE sha256 OF THE DUMP (.gsa) THAT YtnkjfghldeakdaaProg.lean LOADS. Nothing in Lean hashes anything: it is a label: what it is worth is what the hold of that sum in a sandbox is worth. -/
noncomputable def Try.pinned : Pinned := { name := "ytnkjfghldeakdaa", sum := "f63ad7f41d15202abbd18ccb7123a896c012dd9a5323581e77becfcb925421b5", checked := Try.checked }
namespace Rows
def none {H : Type} : Left H := { results := [], args := [] }

/-- 'laws.FnExactConstants': WHATEVER THE INPUT: true; the input reads as it did. -/
def fnExactConstantsSpec : ChangeSpec := { name := "fnExactConstants", fn := fun _ => fun
  | [] => { results := [.lit (.bool true)], args := [] }
  | _ => none }
def fnExactConstantsRow : OpenClaim := { program := "ytnkjfghldeakdaa", sum := "f63ad7f41d15202abbd18ccb7123a896c012dd9a5323581e77becfcb925421b5", func := "loop.example/g00179/laws.FnExactConstants", spec := "fnExactConstants", apart := false }
def FnExactConstantsSaid : Prop := fnExactConstantsRow.holds Try.pinned (OpenSpec.ofChange fnExactConstantsSpec)

/-- ITS FALSE NEIGHBOUR: 'it returns false'. Refute it at one input. -/
def fnExactConstantsWrong : ChangeSpec := { name := "fnExactConstants", fn := fun _ => fun
  | [] => { results := [.lit (.bool false)], args := [] }
  | _ => none }
def FnExactConstantsWrongFalsely : Prop := fnExactConstantsRow.holds Try.pinned (OpenSpec.ofChange fnExactConstantsWrong)

/-- 'laws.FnExactItemsOk': WHATEVER THE INPUT: true; the input reads as it did. -/
def fnExactItemsOkSpec : ChangeSpec := { name := "fnExactItemsOk", fn := fun _ => fun
  | [d] => { results := [.lit (.bool true)], args := [d] }
  | _ => none }
def fnExactItemsOkRow : OpenClaim := { program := "ytnkjfghldeakdaa", sum := "f63ad7f41d15202abbd18ccb7123a896c012dd9a5323581e77becfcb925421b5", func := "loop.example/g00179/laws.FnExactItemsOk", spec := "fnExactItemsOk", apart := false }
def FnExactItemsOkSaid : Prop := fnExactItemsOkRow.holds Try.pinned (OpenSpec.ofChange fnExactItemsOkSpec)

/-- ITS FALSE NEIGHBOUR: 'it returns false'. Refute it at one input. -/
def fnExactItemsOkWrong : ChangeSpec := { name := "fnExactItemsOk", fn := fun _ => fun
  | [d] => { results := [.lit (.bool false)], args := [d] }
  | _ => none }
def FnExactItemsOkWrongFalsely : Prop := fnExactItemsOkRow.holds Try.pinned (OpenSpec.ofChange fnExactItemsOkWrong)

/-- 'laws.FnExactArrived': WHATEVER THE INPUT: true; the input reads as it did. -/
def fnExactArrivedSpec : ChangeSpec := { name := "fnExactArrived", fn := fun _ => fun
  | [d] => { results := [.lit (.bool true)], args := [d] }
  | _ => none }
def fnExactArrivedRow : OpenClaim := { program := "ytnkjfghldeakdaa", sum := "f63ad7f41d15202abbd18ccb7123a896c012dd9a5323581e77becfcb925421b5", func := "loop.example/g00179/laws.FnExactArrived", spec := "fnExactArrived", apart := false }
def FnExactArrivedSaid : Prop := fnExactArrivedRow.holds Try.pinned (OpenSpec.ofChange fnExactArrivedSpec)

/-- ITS FALSE NEIGHBOUR: 'it returns false'. Refute it at one input. -/
def fnExactArrivedWrong : ChangeSpec := { name := "fnExactArrived", fn := fun _ => fun
  | [d] => { results := [.lit (.bool false)], args := [d] }
  | _ => none }
def FnExactArrivedWrongFalsely : Prop := fnExactArrivedRow.holds Try.pinned (OpenSpec.ofChange fnExactArrivedWrong)

/-- 'laws.FnExactFloorOk': WHATEVER THE INPUT: true; the input reads as it did. -/
def fnExactFloorOkSpec : ChangeSpec := { name := "fnExactFloorOk", fn := fun _ => fun
  | [d] => { results := [.lit (.bool true)], args := [d] }
  | _ => none }
def fnExactFloorOkRow : OpenClaim := { program := "ytnkjfghldeakdaa", sum := "f63ad7f41d15202abbd18ccb7123a896c012dd9a5323581e77becfcb925421b5", func := "loop.example/g00179/laws.FnExactFloorOk", spec := "fnExactFloorOk", apart := false }
def FnExactFloorOkSaid : Prop := fnExactFloorOkRow.holds Try.pinned (OpenSpec.ofChange fnExactFloorOkSpec)

/-- ITS FALSE NEIGHBOUR: 'it returns false'. Refute it at one input. -/
def fnExactFloorOkWrong : ChangeSpec := { name := "fnExactFloorOk", fn := fun _ => fun
  | [d] => { results := [.lit (.bool false)], args := [d] }
  | _ => none }
def FnExactFloorOkWrongFalsely : Prop := fnExactFloorOkRow.holds Try.pinned (OpenSpec.ofChange fnExactFloorOkWrong)

/-- 'laws.FnExactKindAt': WHATEVER THE INPUT: true; the input reads as it did. -/
def fnExactKindAtSpec : ChangeSpec := { name := "fnExactKindAt", fn := fun _ => fun
  | [d1, d2] => { results := [.lit (.bool true)], args := [d1, d2] }
  | _ => none }
def fnExactKindAtRow : OpenClaim := { program := "ytnkjfghldeakdaa", sum := "f63ad7f41d15202abbd18ccb7123a896c012dd9a5323581e77becfcb925421b5", func := "loop.example/g00179/laws.FnExactKindAt", spec := "fnExactKindAt", apart := false }
def FnExactKindAtSaid : Prop := fnExactKindAtRow.holds Try.pinned (OpenSpec.ofChange fnExactKindAtSpec)

/-- ITS FALSE NEIGHBOUR: 'it returns false'. Refute it at one input. -/
def fnExactKindAtWrong : ChangeSpec := { name := "fnExactKindAt", fn := fun _ => fun
  | [d1, d2] => { results := [.lit (.bool false)], args := [d1, d2] }
  | _ => none }
def FnExactKindAtWrongFalsely : Prop := fnExactKindAtRow.holds Try.pinned (OpenSpec.ofChange fnExactKindAtWrong)

/-- 'laws.FnExactCostsOk': WHATEVER THE INPUT: true; the input reads as it did. -/
def fnExactCostsOkSpec : ChangeSpec := { name := "fnExactCostsOk", fn := fun _ => fun
  | [d] => { results := [.lit (.bool true)], args := [d] }
  | _ => none }
def fnExactCostsOkRow : OpenClaim := { program := "ytnkjfghldeakdaa", sum := "f63ad7f41d15202abbd18ccb7123a896c012dd9a5323581e77becfcb925421b5", func := "loop.example/g00179/laws.FnExactCostsOk", spec := "fnExactCostsOk", apart := false }
def FnExactCostsOkSaid : Prop := fnExactCostsOkRow.holds Try.pinned (OpenSpec.ofChange fnExactCostsOkSpec)

/-- ITS FALSE NEIGHBOUR: 'it returns false'. Refute it at one input. -/
def fnExactCostsOkWrong : ChangeSpec := { name := "fnExactCostsOk", fn := fun _ => fun
  | [d] => { results := [.lit (.bool false)], args := [d] }
  | _ => none }
def FnExactCostsOkWrongFalsely : Prop := fnExactCostsOkRow.holds Try.pinned (OpenSpec.ofChange fnExactCostsOkWrong)

/-- 'laws.FnExactFloorText': WHATEVER THE INPUT: true; the input reads as it did. -/
def fnExactFloorTextSpec : ChangeSpec := { name := "fnExactFloorText", fn := fun _ => fun
  | [d] => { results := [.lit (.bool true)], args := [d] }
  | _ => none }
def fnExactFloorTextRow : OpenClaim := { program := "ytnkjfghldeakdaa", sum := "f63ad7f41d15202abbd18ccb7123a896c012dd9a5323581e77becfcb925421b5", func := "loop.example/g00179/laws.FnExactFloorText", spec := "fnExactFloorText", apart := false }
def FnExactFloorTextSaid : Prop := fnExactFloorTextRow.holds Try.pinned (OpenSpec.ofChange fnExactFloorTextSpec)

/-- ITS FALSE NEIGHBOUR: 'it returns false'. Refute it at one input. -/
def fnExactFloorTextWrong : ChangeSpec := { name := "fnExactFloorText", fn := fun _ => fun
  | [d] => { results := [.lit (.bool false)], args := [d] }
  | _ => none }
def FnExactFloorTextWrongFalsely : Prop := fnExactFloorTextRow.holds Try.pinned (OpenSpec.ofChange fnExactFloorTextWrong)

/- THE SECOND FORM. 'bulk': how many values and letters a reading holds, each counted each time it is reached (what is shared counts as often as it is met; a slice's spare places count too). A statement '..UptoSaid' is the law's where the arguments, and the package variables that the reading takes, are together of bulk at most 1048576: NARROWER than '..Said'. Prove '..Said' where nothing that the law and all that it calls make is longer than what came in: it says more and counts as full. Else prove '..UptoSaid'. A law counts once. -/
mutual
def uptoBulk {H : Type} : DataW H → Nat
  | .lit (.string bytes) => bytes.length + 1
  | .lit _ => 1
  | .nil => 1
  | .ptr d => uptoBulk d + 1
  | .slice elems spare => uptoBulkAll elems + uptoBulkAll spare + 1
  | .agg parts => uptoBulkAll parts + 1
  | .iface _ d => uptoBulk d + 1
  | .map entries => uptoBulkEntries entries + 1
  | .held _ => 1
def uptoBulkAll {H : Type} : List (DataW H) → Nat
  | [] => 0
  | d :: r => uptoBulk d + uptoBulkAll r
def uptoBulkEntries {H : Type} : List (Lit × DataW H) → Nat
  | [] => 0
  | x :: r => uptoBulkEntry x + uptoBulkEntries r
def uptoBulkEntry {H : Type} : Lit × DataW H → Nat
  | (.string bytes, d) => bytes.length + uptoBulk d + 1
  | (_, d) => uptoBulk d + 1
 end
def uptoSmall : (H : Type) → List (DataW H) → Bool := fun _ ds => decide (uptoBulkAll ds ≤ 1048576)
def OpenSpec.upto (s : _root_.Go.ChangeSpec) : _root_.Go.OpenSpec := { _root_.Go.OpenSpec.ofChange s with cond := some uptoSmall }

/-- 'laws.FnExactConstants', WHERE WHAT IT READS IS OF BULK AT MOST 1048576: true; the input reads as it did. -/
def fnExactConstantsUptoRow : OpenClaim := { program := "ytnkjfghldeakdaa", sum := "f63ad7f41d15202abbd18ccb7123a896c012dd9a5323581e77becfcb925421b5", func := "loop.example/g00179/laws.FnExactConstants", spec := "fnExactConstants", apart := false, narrowed := true }
def FnExactConstantsUptoSaid : Prop := fnExactConstantsUptoRow.holds Try.pinned (OpenSpec.upto fnExactConstantsSpec)

/-- 'laws.FnExactItemsOk', WHERE WHAT IT READS IS OF BULK AT MOST 1048576: true; the input reads as it did. -/
def fnExactItemsOkUptoRow : OpenClaim := { program := "ytnkjfghldeakdaa", sum := "f63ad7f41d15202abbd18ccb7123a896c012dd9a5323581e77becfcb925421b5", func := "loop.example/g00179/laws.FnExactItemsOk", spec := "fnExactItemsOk", apart := false, narrowed := true }
def FnExactItemsOkUptoSaid : Prop := fnExactItemsOkUptoRow.holds Try.pinned (OpenSpec.upto fnExactItemsOkSpec)

/-- 'laws.FnExactArrived', WHERE WHAT IT READS IS OF BULK AT MOST 1048576: true; the input reads as it did. -/
def fnExactArrivedUptoRow : OpenClaim := { program := "ytnkjfghldeakdaa", sum := "f63ad7f41d15202abbd18ccb7123a896c012dd9a5323581e77becfcb925421b5", func := "loop.example/g00179/laws.FnExactArrived", spec := "fnExactArrived", apart := false, narrowed := true }
def FnExactArrivedUptoSaid : Prop := fnExactArrivedUptoRow.holds Try.pinned (OpenSpec.upto fnExactArrivedSpec)

/-- 'laws.FnExactFloorOk', WHERE WHAT IT READS IS OF BULK AT MOST 1048576: true; the input reads as it did. -/
def fnExactFloorOkUptoRow : OpenClaim := { program := "ytnkjfghldeakdaa", sum := "f63ad7f41d15202abbd18ccb7123a896c012dd9a5323581e77becfcb925421b5", func := "loop.example/g00179/laws.FnExactFloorOk", spec := "fnExactFloorOk", apart := false, narrowed := true }
def FnExactFloorOkUptoSaid : Prop := fnExactFloorOkUptoRow.holds Try.pinned (OpenSpec.upto fnExactFloorOkSpec)

/-- 'laws.FnExactKindAt', WHERE WHAT IT READS IS OF BULK AT MOST 1048576: true; the input reads as it did. -/
def fnExactKindAtUptoRow : OpenClaim := { program := "ytnkjfghldeakdaa", sum := "f63ad7f41d15202abbd18ccb7123a896c012dd9a5323581e77becfcb925421b5", func := "loop.example/g00179/laws.FnExactKindAt", spec := "fnExactKindAt", apart := false, narrowed := true }
def FnExactKindAtUptoSaid : Prop := fnExactKindAtUptoRow.holds Try.pinned (OpenSpec.upto fnExactKindAtSpec)

/-- 'laws.FnExactCostsOk', WHERE WHAT IT READS IS OF BULK AT MOST 1048576: true; the input reads as it did. -/
def fnExactCostsOkUptoRow : OpenClaim := { program := "ytnkjfghldeakdaa", sum := "f63ad7f41d15202abbd18ccb7123a896c012dd9a5323581e77becfcb925421b5", func := "loop.example/g00179/laws.FnExactCostsOk", spec := "fnExactCostsOk", apart := false, narrowed := true }
def FnExactCostsOkUptoSaid : Prop := fnExactCostsOkUptoRow.holds Try.pinned (OpenSpec.upto fnExactCostsOkSpec)

/-- 'laws.FnExactFloorText', WHERE WHAT IT READS IS OF BULK AT MOST 1048576: true; the input reads as it did. -/
def fnExactFloorTextUptoRow : OpenClaim := { program := "ytnkjfghldeakdaa", sum := "f63ad7f41d15202abbd18ccb7123a896c012dd9a5323581e77becfcb925421b5", func := "loop.example/g00179/laws.FnExactFloorText", spec := "fnExactFloorText", apart := false, narrowed := true }
def FnExactFloorTextUptoSaid : Prop := fnExactFloorTextUptoRow.holds Try.pinned (OpenSpec.upto fnExactFloorTextSpec)

end Rows
end Go.Proofs.Ytnkjfghldeakdaa
