/-
  No cell of these rows narrows 'for every input' (looked for: loops, veiled, ifaces, maps, wideKeys, modest, calm, conditions, laid).
  DERIVED. THE GIVEN ROWS OF THIS SEAT. 12 by the template 'for every input the law returns true; each argument reads behind the call as it read before'; 0 by the template 'total and deterministic' (their statements: YtjeonneegmhcdaaTotals.lean).
  GIVEN WITH THE SEED: the statements are not yours to turn. If you find one false, say at which input.
  Laid BY PROGRAM, IN A SANDBOX (cutbox-rows.mjs): the forced cells as the released guide's own fill.sh prints them over the translation 021f4e2fba65788a… (all of the seat's roots in one cut). By AI agents, Wed Nov 11 2026. No macro, syntax, notation, axiom, sorry.
-/
import Derived.Test.YtjeonneegmhcdaaChecked
import GoSem.Claim
import GoSem.ClaimJoined
import GoSem.ClaimMapViews
import Derived.JoinedTies
import Derived.KernelRfl
namespace Go.Proofs.Ytjeonneegmhcdaa
/- THE CELL 'sum', in the pinned program and in every row, IS THE sha256 OF THE DUMP (.gsa) THAT YtjeonneegmhcdaaProg.lean LOADS. Nothing in Lean hashes anything: it is a label: what it is worth is what the hold of that sum in a sandbox is worth. -/
noncomputable def Try.pinned : Pinned := { name := "ytjeonneegmhcdaa", sum := "021f4e2fba65788ae5cdbd8a9ec580439c014935884c1513c11f06a72ed60c1e", checked := Try.checked }
namespace Rows
def none {H : Type} : Left H := { results := [], args := [] }

/-- 'laws.FnFirst': WHATEVER THE INPUT: true; the input reads as it did. -/
def fnFirstSpec : ChangeSpec := { name := "fnFirst", fn := fun _ => fun
  | [d] => { results := [.lit (.bool true)], args := [d] }
  | _ => none }
def fnFirstRow : OpenClaim := { program := "ytjeonneegmhcdaa", sum := "021f4e2fba65788ae5cdbd8a9ec580439c014935884c1513c11f06a72ed60c1e", func := "loop.example/g00179/laws.FnFirst", spec := "fnFirst", inPlace := ["internal/reflectlite.ValueOf", "internal/reflectlite.Swapper", "(internal/reflectlite.Value).Len"], unfollowed := true, recurses := true, apart := false }
def FnFirstSaid : Prop := fnFirstRow.holds Try.pinned (OpenSpec.ofChange fnFirstSpec)

/-- ITS FALSE NEIGHBOUR: 'it returns false'. Refute it at one input. -/
def fnFirstWrong : ChangeSpec := { name := "fnFirst", fn := fun _ => fun
  | [d] => { results := [.lit (.bool false)], args := [d] }
  | _ => none }
def FnFirstWrongFalsely : Prop := fnFirstRow.holds Try.pinned (OpenSpec.ofChange fnFirstWrong)

/-- 'laws.FnExactPodsOf': WHATEVER THE INPUT: true; the input reads as it did. -/
def fnExactPodsOfSpec : ChangeSpec := { name := "fnExactPodsOf", fn := fun _ => fun
  | [d] => { results := [.lit (.bool true)], args := [d] }
  | _ => none }
def fnExactPodsOfRow : OpenClaim := { program := "ytjeonneegmhcdaa", sum := "021f4e2fba65788ae5cdbd8a9ec580439c014935884c1513c11f06a72ed60c1e", func := "loop.example/g00179/laws.FnExactPodsOf", spec := "fnExactPodsOf", apart := false }
def FnExactPodsOfSaid : Prop := fnExactPodsOfRow.holds Try.pinned (OpenSpec.ofChange fnExactPodsOfSpec)

/-- ITS FALSE NEIGHBOUR: 'it returns false'. Refute it at one input. -/
def fnExactPodsOfWrong : ChangeSpec := { name := "fnExactPodsOf", fn := fun _ => fun
  | [d] => { results := [.lit (.bool false)], args := [d] }
  | _ => none }
def FnExactPodsOfWrongFalsely : Prop := fnExactPodsOfRow.holds Try.pinned (OpenSpec.ofChange fnExactPodsOfWrong)

/-- 'laws.FnExactCellsOf': WHATEVER THE INPUT: true; the input reads as it did. -/
def fnExactCellsOfSpec : ChangeSpec := { name := "fnExactCellsOf", fn := fun _ => fun
  | [d1, d2] => { results := [.lit (.bool true)], args := [d1, d2] }
  | _ => none }
def fnExactCellsOfRow : OpenClaim := { program := "ytjeonneegmhcdaa", sum := "021f4e2fba65788ae5cdbd8a9ec580439c014935884c1513c11f06a72ed60c1e", func := "loop.example/g00179/laws.FnExactCellsOf", spec := "fnExactCellsOf", apart := false }
def FnExactCellsOfSaid : Prop := fnExactCellsOfRow.holds Try.pinned (OpenSpec.ofChange fnExactCellsOfSpec)

/-- ITS FALSE NEIGHBOUR: 'it returns false'. Refute it at one input. -/
def fnExactCellsOfWrong : ChangeSpec := { name := "fnExactCellsOf", fn := fun _ => fun
  | [d1, d2] => { results := [.lit (.bool false)], args := [d1, d2] }
  | _ => none }
def FnExactCellsOfWrongFalsely : Prop := fnExactCellsOfRow.holds Try.pinned (OpenSpec.ofChange fnExactCellsOfWrong)

/-- 'laws.FnExactSumOf': WHATEVER THE INPUT: true; the input reads as it did. -/
def fnExactSumOfSpec : ChangeSpec := { name := "fnExactSumOf", fn := fun _ => fun
  | [d1, d2] => { results := [.lit (.bool true)], args := [d1, d2] }
  | _ => none }
def fnExactSumOfRow : OpenClaim := { program := "ytjeonneegmhcdaa", sum := "021f4e2fba65788ae5cdbd8a9ec580439c014935884c1513c11f06a72ed60c1e", func := "loop.example/g00179/laws.FnExactSumOf", spec := "fnExactSumOf", apart := false }
def FnExactSumOfSaid : Prop := fnExactSumOfRow.holds Try.pinned (OpenSpec.ofChange fnExactSumOfSpec)

/-- ITS FALSE NEIGHBOUR: 'it returns false'. Refute it at one input. -/
def fnExactSumOfWrong : ChangeSpec := { name := "fnExactSumOf", fn := fun _ => fun
  | [d1, d2] => { results := [.lit (.bool false)], args := [d1, d2] }
  | _ => none }
def FnExactSumOfWrongFalsely : Prop := fnExactSumOfRow.holds Try.pinned (OpenSpec.ofChange fnExactSumOfWrong)

/-- 'laws.FnExactBlock': WHATEVER THE INPUT: true; the input reads as it did. -/
def fnExactBlockSpec : ChangeSpec := { name := "fnExactBlock", fn := fun _ => fun
  | [d1, d2] => { results := [.lit (.bool true)], args := [d1, d2] }
  | _ => none }
def fnExactBlockRow : OpenClaim := { program := "ytjeonneegmhcdaa", sum := "021f4e2fba65788ae5cdbd8a9ec580439c014935884c1513c11f06a72ed60c1e", func := "loop.example/g00179/laws.FnExactBlock", spec := "fnExactBlock", apart := false }
def FnExactBlockSaid : Prop := fnExactBlockRow.holds Try.pinned (OpenSpec.ofChange fnExactBlockSpec)

/-- ITS FALSE NEIGHBOUR: 'it returns false'. Refute it at one input. -/
def fnExactBlockWrong : ChangeSpec := { name := "fnExactBlock", fn := fun _ => fun
  | [d1, d2] => { results := [.lit (.bool false)], args := [d1, d2] }
  | _ => none }
def FnExactBlockWrongFalsely : Prop := fnExactBlockRow.holds Try.pinned (OpenSpec.ofChange fnExactBlockWrong)

/-- 'laws.FnExactTurned': WHATEVER THE INPUT: true; the input reads as it did. -/
def fnExactTurnedSpec : ChangeSpec := { name := "fnExactTurned", fn := fun _ => fun
  | [d] => { results := [.lit (.bool true)], args := [d] }
  | _ => none }
def fnExactTurnedRow : OpenClaim := { program := "ytjeonneegmhcdaa", sum := "021f4e2fba65788ae5cdbd8a9ec580439c014935884c1513c11f06a72ed60c1e", func := "loop.example/g00179/laws.FnExactTurned", spec := "fnExactTurned", apart := false }
def FnExactTurnedSaid : Prop := fnExactTurnedRow.holds Try.pinned (OpenSpec.ofChange fnExactTurnedSpec)

/-- ITS FALSE NEIGHBOUR: 'it returns false'. Refute it at one input. -/
def fnExactTurnedWrong : ChangeSpec := { name := "fnExactTurned", fn := fun _ => fun
  | [d] => { results := [.lit (.bool false)], args := [d] }
  | _ => none }
def FnExactTurnedWrongFalsely : Prop := fnExactTurnedRow.holds Try.pinned (OpenSpec.ofChange fnExactTurnedWrong)

/-- 'laws.FnExactNear': WHATEVER THE INPUT: true; the input reads as it did. -/
def fnExactNearSpec : ChangeSpec := { name := "fnExactNear", fn := fun _ => fun
  | [d1, d2, d3] => { results := [.lit (.bool true)], args := [d1, d2, d3] }
  | _ => none }
def fnExactNearRow : OpenClaim := { program := "ytjeonneegmhcdaa", sum := "021f4e2fba65788ae5cdbd8a9ec580439c014935884c1513c11f06a72ed60c1e", func := "loop.example/g00179/laws.FnExactNear", spec := "fnExactNear", apart := false }
def FnExactNearSaid : Prop := fnExactNearRow.holds Try.pinned (OpenSpec.ofChange fnExactNearSpec)

/-- ITS FALSE NEIGHBOUR: 'it returns false'. Refute it at one input. -/
def fnExactNearWrong : ChangeSpec := { name := "fnExactNear", fn := fun _ => fun
  | [d1, d2, d3] => { results := [.lit (.bool false)], args := [d1, d2, d3] }
  | _ => none }
def FnExactNearWrongFalsely : Prop := fnExactNearRow.holds Try.pinned (OpenSpec.ofChange fnExactNearWrong)

/-- 'laws.FnLively': WHATEVER THE INPUT: true; the input reads as it did. -/
def fnLivelySpec : ChangeSpec := { name := "fnLively", fn := fun _ => fun
  | [d] => { results := [.lit (.bool true)], args := [d] }
  | _ => none }
def fnLivelyRow : OpenClaim := { program := "ytjeonneegmhcdaa", sum := "021f4e2fba65788ae5cdbd8a9ec580439c014935884c1513c11f06a72ed60c1e", func := "loop.example/g00179/laws.FnLively", spec := "fnLively", inPlace := ["internal/reflectlite.ValueOf", "internal/reflectlite.Swapper", "(internal/reflectlite.Value).Len"], unfollowed := true, recurses := true, apart := false }
def FnLivelySaid : Prop := fnLivelyRow.holds Try.pinned (OpenSpec.ofChange fnLivelySpec)

/-- ITS FALSE NEIGHBOUR: 'it returns false'. Refute it at one input. -/
def fnLivelyWrong : ChangeSpec := { name := "fnLively", fn := fun _ => fun
  | [d] => { results := [.lit (.bool false)], args := [d] }
  | _ => none }
def FnLivelyWrongFalsely : Prop := fnLivelyRow.holds Try.pinned (OpenSpec.ofChange fnLivelyWrong)

/-- 'laws.FnExactStockOk': WHATEVER THE INPUT: true; the input reads as it did. -/
def fnExactStockOkSpec : ChangeSpec := { name := "fnExactStockOk", fn := fun _ => fun
  | [d] => { results := [.lit (.bool true)], args := [d] }
  | _ => none }
def fnExactStockOkRow : OpenClaim := { program := "ytjeonneegmhcdaa", sum := "021f4e2fba65788ae5cdbd8a9ec580439c014935884c1513c11f06a72ed60c1e", func := "loop.example/g00179/laws.FnExactStockOk", spec := "fnExactStockOk", apart := false }
def FnExactStockOkSaid : Prop := fnExactStockOkRow.holds Try.pinned (OpenSpec.ofChange fnExactStockOkSpec)

/-- ITS FALSE NEIGHBOUR: 'it returns false'. Refute it at one input. -/
def fnExactStockOkWrong : ChangeSpec := { name := "fnExactStockOk", fn := fun _ => fun
  | [d] => { results := [.lit (.bool false)], args := [d] }
  | _ => none }
def FnExactStockOkWrongFalsely : Prop := fnExactStockOkRow.holds Try.pinned (OpenSpec.ofChange fnExactStockOkWrong)

/-- 'laws.FnExactCrewOk': WHATEVER THE INPUT: true; the input reads as it did. -/
def fnExactCrewOkSpec : ChangeSpec := { name := "fnExactCrewOk", fn := fun _ => fun
  | [d1, d2] => { results := [.lit (.bool true)], args := [d1, d2] }
  | _ => none }
def fnExactCrewOkRow : OpenClaim := { program := "ytjeonneegmhcdaa", sum := "021f4e2fba65788ae5cdbd8a9ec580439c014935884c1513c11f06a72ed60c1e", func := "loop.example/g00179/laws.FnExactCrewOk", spec := "fnExactCrewOk", apart := false }
def FnExactCrewOkSaid : Prop := fnExactCrewOkRow.holds Try.pinned (OpenSpec.ofChange fnExactCrewOkSpec)

/-- ITS FALSE NEIGHBOUR: 'it returns false'. Refute it at one input. -/
def fnExactCrewOkWrong : ChangeSpec := { name := "fnExactCrewOk", fn := fun _ => fun
  | [d1, d2] => { results := [.lit (.bool false)], args := [d1, d2] }
  | _ => none }
def FnExactCrewOkWrongFalsely : Prop := fnExactCrewOkRow.holds Try.pinned (OpenSpec.ofChange fnExactCrewOkWrong)

/-- 'laws.FnFields': WHATEVER THE INPUT: true; the input reads as it did. -/
def fnFieldsSpec : ChangeSpec := { name := "fnFields", fn := fun _ => fun
  | [d] => { results := [.lit (.bool true)], args := [d] }
  | _ => none }
def fnFieldsRow : OpenClaim := { program := "ytjeonneegmhcdaa", sum := "021f4e2fba65788ae5cdbd8a9ec580439c014935884c1513c11f06a72ed60c1e", func := "loop.example/g00179/laws.FnFields", spec := "fnFields", apart := false }
def FnFieldsSaid : Prop := fnFieldsRow.holds Try.pinned (OpenSpec.ofChange fnFieldsSpec)

/-- ITS FALSE NEIGHBOUR: 'it returns false'. Refute it at one input. -/
def fnFieldsWrong : ChangeSpec := { name := "fnFields", fn := fun _ => fun
  | [d] => { results := [.lit (.bool false)], args := [d] }
  | _ => none }
def FnFieldsWrongFalsely : Prop := fnFieldsRow.holds Try.pinned (OpenSpec.ofChange fnFieldsWrong)

/-- 'laws.FnExactProves': WHATEVER THE INPUT: true; the input reads as it did. -/
def fnExactProvesSpec : ChangeSpec := { name := "fnExactProves", fn := fun _ => fun
  | [d1, d2, d3, d4] => { results := [.lit (.bool true)], args := [d1, d2, d3, d4] }
  | _ => none }
def fnExactProvesRow : OpenClaim := { program := "ytjeonneegmhcdaa", sum := "021f4e2fba65788ae5cdbd8a9ec580439c014935884c1513c11f06a72ed60c1e", func := "loop.example/g00179/laws.FnExactProves", spec := "fnExactProves", apart := false }
def FnExactProvesSaid : Prop := fnExactProvesRow.holds Try.pinned (OpenSpec.ofChange fnExactProvesSpec)

/-- ITS FALSE NEIGHBOUR: 'it returns false'. Refute it at one input. -/
def fnExactProvesWrong : ChangeSpec := { name := "fnExactProves", fn := fun _ => fun
  | [d1, d2, d3, d4] => { results := [.lit (.bool false)], args := [d1, d2, d3, d4] }
  | _ => none }
def FnExactProvesWrongFalsely : Prop := fnExactProvesRow.holds Try.pinned (OpenSpec.ofChange fnExactProvesWrong)

/- THE SECOND FORM. 'bulk': how many values and letters a reading holds, each counted each time it is reached (what is shared counts as often as it is met; a slice's spare places count too). A statement '..UptoSaid' is the law's where the arguments, and the package variables that the reading takes, are together of bulk at most 1048576: NARROWER than '..Said'. Prove '..Said' where nothing that the law and all that it calls make is longer than what came in: it says more and counts as full. Else prove '..UptoSaid'. A law counts once. -/
mutual
def uptoBulk {H : Type} : DataW H → Nat
  | .lit (.string bytes) => bytes.length + 1
  | .lit _ => 1
  | .nil => 1
  | .ptr d => uptoBulk d + 1
  | .slice elems spare => uptoBulkAll elems + uptoBulkAll spare + 1
  | .agg parts => uptoBulkAll parts + 1
  | .iface _ d => uptoBulk d + 1
  | .map entries => uptoBulkEntries entries + 1
  | .held _ => 1
def uptoBulkAll {H : Type} : List (DataW H) → Nat
  | [] => 0
  | d :: r => uptoBulk d + uptoBulkAll r
def uptoBulkEntries {H : Type} : List (Lit × DataW H) → Nat
  | [] => 0
  | x :: r => uptoBulkEntry x + uptoBulkEntries r
def uptoBulkEntry {H : Type} : Lit × DataW H → Nat
  | (.string bytes, d) => bytes.length + uptoBulk d + 1
  | (_, d) => uptoBulk d + 1
 end
def uptoSmall : (H : Type) → List (DataW H) → Bool := fun _ ds => decide (uptoBulkAll ds ≤ 1048576)
def OpenSpec.upto (s : _root_.Go.ChangeSpec) : _root_.Go.OpenSpec := { _root_.Go.OpenSpec.ofChange s with cond := some uptoSmall }

/-- 'laws.FnFirst', WHERE WHAT IT READS IS OF BULK AT MOST 1048576: true; the input reads as it did. -/
def fnFirstUptoRow : OpenClaim := { program := "ytjeonneegmhcdaa", sum := "021f4e2fba65788ae5cdbd8a9ec580439c014935884c1513c11f06a72ed60c1e", func := "loop.example/g00179/laws.FnFirst", spec := "fnFirst", inPlace := ["internal/reflectlite.ValueOf", "internal/reflectlite.Swapper", "(internal/reflectlite.Value).Len"], unfollowed := true, recurses := true, apart := false, narrowed := true }
def FnFirstUptoSaid : Prop := fnFirstUptoRow.holds Try.pinned (OpenSpec.upto fnFirstSpec)

/-- 'laws.FnExactPodsOf', WHERE WHAT IT READS IS OF BULK AT MOST 1048576: true; the input reads as it did. -/
def fnExactPodsOfUptoRow : OpenClaim := { program := "ytjeonneegmhcdaa", sum := "021f4e2fba65788ae5cdbd8a9ec580439c014935884c1513c11f06a72ed60c1e", func := "loop.example/g00179/laws.FnExactPodsOf", spec := "fnExactPodsOf", apart := false, narrowed := true }
def FnExactPodsOfUptoSaid : Prop := fnExactPodsOfUptoRow.holds Try.pinned (OpenSpec.upto fnExactPodsOfSpec)

/-- 'laws.FnExactCellsOf', WHERE WHAT IT READS IS OF BULK AT MOST 1048576: true; the input reads as it did. -/
def fnExactCellsOfUptoRow : OpenClaim := { program := "ytjeonneegmhcdaa", sum := "021f4e2fba65788ae5cdbd8a9ec580439c014935884c1513c11f06a72ed60c1e", func := "loop.example/g00179/laws.FnExactCellsOf", spec := "fnExactCellsOf", apart := false, narrowed := true }
def FnExactCellsOfUptoSaid : Prop := fnExactCellsOfUptoRow.holds Try.pinned (OpenSpec.upto fnExactCellsOfSpec)

/-- 'laws.FnExactSumOf', WHERE WHAT IT READS IS OF BULK AT MOST 1048576: true; the input reads as it did. -/
def fnExactSumOfUptoRow : OpenClaim := { program := "ytjeonneegmhcdaa", sum := "021f4e2fba65788ae5cdbd8a9ec580439c014935884c1513c11f06a72ed60c1e", func := "loop.example/g00179/laws.FnExactSumOf", spec := "fnExactSumOf", apart := false, narrowed := true }
def FnExactSumOfUptoSaid : Prop := fnExactSumOfUptoRow.holds Try.pinned (OpenSpec.upto fnExactSumOfSpec)

/-- 'laws.FnExactBlock', WHERE WHAT IT READS IS OF BULK AT MOST 1048576: true; the input reads as it did. -/
def fnExactBlockUptoRow : OpenClaim := { program := "ytjeonneegmhcdaa", sum := "021f4e2fba65788ae5cdbd8a9ec580439c014935884c1513c11f06a72ed60c1e", func := "loop.example/g00179/laws.FnExactBlock", spec := "fnExactBlock", apart := false, narrowed := true }
def FnExactBlockUptoSaid : Prop := fnExactBlockUptoRow.holds Try.pinned (OpenSpec.upto fnExactBlockSpec)

/-- 'laws.FnExactTurned', WHERE WHAT IT READS IS OF BULK AT MOST 1048576: true; the input reads as it did. -/
def fnExactTurnedUptoRow : OpenClaim := { program := "ytjeonneegmhcdaa", sum := "021f4e2fba65788ae5cdbd8a9ec580439c014935884c1513c11f06a72ed60c1e", func := "loop.example/g00179/laws.FnExactTurned", spec := "fnExactTurned", apart := false, narrowed := true }
def FnExactTurnedUptoSaid : Prop := fnExactTurnedUptoRow.holds Try.pinned (OpenSpec.upto fnExactTurnedSpec)

/-- 'laws.FnExactNear', WHERE WHAT IT READS IS OF BULK AT MOST 1048576: true; the input reads as it did. -/
def fnExactNearUptoRow : OpenClaim := { program := "ytjeonneegmhcdaa", sum := "021f4e2fba65788ae5cdbd8a9ec580439c014935884c1513c11f06a72ed60c1e", func := "loop.example/g00179/laws.FnExactNear", spec := "fnExactNear", apart := false, narrowed := true }
def FnExactNearUptoSaid : Prop := fnExactNearUptoRow.holds Try.pinned (OpenSpec.upto fnExactNearSpec)

/-- 'laws.FnLively', WHERE WHAT IT READS IS OF BULK AT MOST 1048576: true; the input reads as it did. -/
def fnLivelyUptoRow : OpenClaim := { program := "ytjeonneegmhcdaa", sum := "021f4e2fba65788ae5cdbd8a9ec580439c014935884c1513c11f06a72ed60c1e", func := "loop.example/g00179/laws.FnLively", spec := "fnLively", inPlace := ["internal/reflectlite.ValueOf", "internal/reflectlite.Swapper", "(internal/reflectlite.Value).Len"], unfollowed := true, recurses := true, apart := false, narrowed := true }
def FnLivelyUptoSaid : Prop := fnLivelyUptoRow.holds Try.pinned (OpenSpec.upto fnLivelySpec)

/-- 'laws.FnExactStockOk', WHERE WHAT IT READS IS OF BULK AT MOST 1048576: true; the input reads as it did. -/
def fnExactStockOkUptoRow : OpenClaim := { program := "ytjeonneegmhcdaa", sum := "021f4e2fba65788ae5cdbd8a9ec580439c014935884c1513c11f06a72ed60c1e", func := "loop.example/g00179/laws.FnExactStockOk", spec := "fnExactStockOk", apart := false, narrowed := true }
def FnExactStockOkUptoSaid : Prop := fnExactStockOkUptoRow.holds Try.pinned (OpenSpec.upto fnExactStockOkSpec)

/-- 'laws.FnExactCrewOk', WHERE WHAT IT READS IS OF BULK AT MOST 1048576: true; the input reads as it did. -/
def fnExactCrewOkUptoRow : OpenClaim := { program := "ytjeonneegmhcdaa", sum := "021f4e2fba65788ae5cdbd8a9ec580439c014935884c1513c11f06a72ed60c1e", func := "loop.example/g00179/laws.FnExactCrewOk", spec := "fnExactCrewOk", apart := false, narrowed := true }
def FnExactCrewOkUptoSaid : Prop := fnExactCrewOkUptoRow.holds Try.pinned (OpenSpec.upto fnExactCrewOkSpec)

/-- 'laws.FnFields', WHERE WHAT IT READS IS OF BULK AT MOST 1048576: true; the input reads as it did. -/
def fnFieldsUptoRow : OpenClaim := { program := "ytjeonneegmhcdaa", sum := "021f4e2fba65788ae5cdbd8a9ec580439c014935884c1513c11f06a72ed60c1e", func := "loop.example/g00179/laws.FnFields", spec := "fnFields", apart := false, narrowed := true }
def FnFieldsUptoSaid : Prop := fnFieldsUptoRow.holds Try.pinned (OpenSpec.upto fnFieldsSpec)

/-- 'laws.FnExactProves', WHERE WHAT IT READS IS OF BULK AT MOST 1048576: true; the input reads as it did. -/
def fnExactProvesUptoRow : OpenClaim := { program := "ytjeonneegmhcdaa", sum := "021f4e2fba65788ae5cdbd8a9ec580439c014935884c1513c11f06a72ed60c1e", func := "loop.example/g00179/laws.FnExactProves", spec := "fnExactProves", apart := false, narrowed := true }
def FnExactProvesUptoSaid : Prop := fnExactProvesUptoRow.holds Try.pinned (OpenSpec.upto fnExactProvesSpec)

end Rows
end Go.Proofs.Ytjeonneegmhcdaa
