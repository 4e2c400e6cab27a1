/-
  No cell of these rows narrows 'for every input' (looked for: loops, veiled, ifaces, maps, wideKeys, modest, calm, conditions, laid).
  DERIVED. THE GIVEN ROWS OF THIS SEAT. 6 by the template 'for every input the law returns true; each argument reads behind the call as it read before'; 0 by the template 'total and deterministic' (their statements: YtlealjliaifkcacTotals.lean).
  GIVEN WITH THE SEED: the statements are not yours to turn. If you find one false, say at which input.
  Laid BY PROGRAM, IN A SANDBOX (cutbox-rows.mjs): the forced cells as the released guide's own fill.sh prints them over the translation ecdbf554d2f48c69… (all of the seat's roots in one cut). By AI agents, Wed Nov 11 2026. No macro, syntax, notation, axiom, sorry.
-/
import Derived.Test.YtlealjliaifkcacChecked
import GoSem.Claim
import GoSem.ClaimJoined
import GoSem.ClaimMapViews
import Derived.JoinedTies
import Derived.KernelRfl
namespace Go.Proofs.Ytlealjliaifkcac
/- THE CELL 'sum', in the pinned program and in every row, IS THE sha256 OF THE DUMP (.gsa) THAT YtlealjliaifkcacProg.lean LOADS. Nothing in Lean hashes anything: it is a label: what it is worth is what the hold of that sum in a sandbox is worth. -/
noncomputable def Try.pinned : Pinned := { name := "ytlealjliaifkcac", sum := "ecdbf554d2f48c698b8bb0c3ed07b1416e52d97db38bd2e0140e954f301ccc9e", checked := Try.checked }
namespace Rows
def none {H : Type} : Left H := { results := [], args := [] }

/-- 'laws.FnExactCanTakeOut': WHATEVER THE INPUT: true; the input reads as it did. -/
def fnExactCanTakeOutSpec : ChangeSpec := { name := "fnExactCanTakeOut", fn := fun _ => fun
  | [d1, d2] => { results := [.lit (.bool true)], args := [d1, d2] }
  | _ => none }
def fnExactCanTakeOutRow : OpenClaim := { program := "ytlealjliaifkcac", sum := "ecdbf554d2f48c698b8bb0c3ed07b1416e52d97db38bd2e0140e954f301ccc9e", func := "loop.example/g01391/laws.FnExactCanTakeOut", spec := "fnExactCanTakeOut", recurses := true, apart := false }
def FnExactCanTakeOutSaid : Prop := fnExactCanTakeOutRow.holds Try.pinned (OpenSpec.ofChange fnExactCanTakeOutSpec)

/-- ITS FALSE NEIGHBOUR: 'it returns false'. Refute it at one input. -/
def fnExactCanTakeOutWrong : ChangeSpec := { name := "fnExactCanTakeOut", fn := fun _ => fun
  | [d1, d2] => { results := [.lit (.bool false)], args := [d1, d2] }
  | _ => none }
def FnExactCanTakeOutWrongFalsely : Prop := fnExactCanTakeOutRow.holds Try.pinned (OpenSpec.ofChange fnExactCanTakeOutWrong)

/-- 'laws.FnExactNodesInCommon': WHATEVER THE INPUT: true; the input reads as it did. -/
def fnExactNodesInCommonSpec : ChangeSpec := { name := "fnExactNodesInCommon", fn := fun _ => fun
  | [d1, d2] => { results := [.lit (.bool true)], args := [d1, d2] }
  | _ => none }
def fnExactNodesInCommonRow : OpenClaim := { program := "ytlealjliaifkcac", sum := "ecdbf554d2f48c698b8bb0c3ed07b1416e52d97db38bd2e0140e954f301ccc9e", func := "loop.example/g01391/laws.FnExactNodesInCommon", spec := "fnExactNodesInCommon", recurses := true, apart := false }
def FnExactNodesInCommonSaid : Prop := fnExactNodesInCommonRow.holds Try.pinned (OpenSpec.ofChange fnExactNodesInCommonSpec)

/-- ITS FALSE NEIGHBOUR: 'it returns false'. Refute it at one input. -/
def fnExactNodesInCommonWrong : ChangeSpec := { name := "fnExactNodesInCommon", fn := fun _ => fun
  | [d1, d2] => { results := [.lit (.bool false)], args := [d1, d2] }
  | _ => none }
def FnExactNodesInCommonWrongFalsely : Prop := fnExactNodesInCommonRow.holds Try.pinned (OpenSpec.ofChange fnExactNodesInCommonWrong)

/-- 'laws.FnExactEditDistance': WHATEVER THE INPUT: true; the input reads as it did. -/
def fnExactEditDistanceSpec : ChangeSpec := { name := "fnExactEditDistance", fn := fun _ => fun
  | [d1, d2] => { results := [.lit (.bool true)], args := [d1, d2] }
  | _ => none }
def fnExactEditDistanceRow : OpenClaim := { program := "ytlealjliaifkcac", sum := "ecdbf554d2f48c698b8bb0c3ed07b1416e52d97db38bd2e0140e954f301ccc9e", func := "loop.example/g01391/laws.FnExactEditDistance", spec := "fnExactEditDistance", recurses := true, apart := false }
def FnExactEditDistanceSaid : Prop := fnExactEditDistanceRow.holds Try.pinned (OpenSpec.ofChange fnExactEditDistanceSpec)

/-- ITS FALSE NEIGHBOUR: 'it returns false'. Refute it at one input. -/
def fnExactEditDistanceWrong : ChangeSpec := { name := "fnExactEditDistance", fn := fun _ => fun
  | [d1, d2] => { results := [.lit (.bool false)], args := [d1, d2] }
  | _ => none }
def FnExactEditDistanceWrongFalsely : Prop := fnExactEditDistanceRow.holds Try.pinned (OpenSpec.ofChange fnExactEditDistanceWrong)

/-- 'laws.FnExactHeavyPaths': WHATEVER THE INPUT: true; the input reads as it did. -/
def fnExactHeavyPathsSpec : ChangeSpec := { name := "fnExactHeavyPaths", fn := fun _ => fun
  | [d] => { results := [.lit (.bool true)], args := [d] }
  | _ => none }
def fnExactHeavyPathsRow : OpenClaim := { program := "ytlealjliaifkcac", sum := "ecdbf554d2f48c698b8bb0c3ed07b1416e52d97db38bd2e0140e954f301ccc9e", func := "loop.example/g01391/laws.FnExactHeavyPaths", spec := "fnExactHeavyPaths", apart := false }
def FnExactHeavyPathsSaid : Prop := fnExactHeavyPathsRow.holds Try.pinned (OpenSpec.ofChange fnExactHeavyPathsSpec)

/-- ITS FALSE NEIGHBOUR: 'it returns false'. Refute it at one input. -/
def fnExactHeavyPathsWrong : ChangeSpec := { name := "fnExactHeavyPaths", fn := fun _ => fun
  | [d] => { results := [.lit (.bool false)], args := [d] }
  | _ => none }
def FnExactHeavyPathsWrongFalsely : Prop := fnExactHeavyPathsRow.holds Try.pinned (OpenSpec.ofChange fnExactHeavyPathsWrong)

/-- 'laws.FnExactBesideOf': WHATEVER THE INPUT: true; the input reads as it did. -/
def fnExactBesideOfSpec : ChangeSpec := { name := "fnExactBesideOf", fn := fun _ => fun
  | [d] => { results := [.lit (.bool true)], args := [d] }
  | _ => none }
def fnExactBesideOfRow : OpenClaim := { program := "ytlealjliaifkcac", sum := "ecdbf554d2f48c698b8bb0c3ed07b1416e52d97db38bd2e0140e954f301ccc9e", func := "loop.example/g01391/laws.FnExactBesideOf", spec := "fnExactBesideOf", apart := false }
def FnExactBesideOfSaid : Prop := fnExactBesideOfRow.holds Try.pinned (OpenSpec.ofChange fnExactBesideOfSpec)

/-- ITS FALSE NEIGHBOUR: 'it returns false'. Refute it at one input. -/
def fnExactBesideOfWrong : ChangeSpec := { name := "fnExactBesideOf", fn := fun _ => fun
  | [d] => { results := [.lit (.bool false)], args := [d] }
  | _ => none }
def FnExactBesideOfWrongFalsely : Prop := fnExactBesideOfRow.holds Try.pinned (OpenSpec.ofChange fnExactBesideOfWrong)

/-- 'laws.FnExactLastGrowing': WHATEVER THE INPUT: true; the input reads as it did. -/
def fnExactLastGrowingSpec : ChangeSpec := { name := "fnExactLastGrowing", fn := fun _ => fun
  | [d] => { results := [.lit (.bool true)], args := [d] }
  | _ => none }
def fnExactLastGrowingRow : OpenClaim := { program := "ytlealjliaifkcac", sum := "ecdbf554d2f48c698b8bb0c3ed07b1416e52d97db38bd2e0140e954f301ccc9e", func := "loop.example/g01391/laws.FnExactLastGrowing", spec := "fnExactLastGrowing", apart := false }
def FnExactLastGrowingSaid : Prop := fnExactLastGrowingRow.holds Try.pinned (OpenSpec.ofChange fnExactLastGrowingSpec)

/-- ITS FALSE NEIGHBOUR: 'it returns false'. Refute it at one input. -/
def fnExactLastGrowingWrong : ChangeSpec := { name := "fnExactLastGrowing", fn := fun _ => fun
  | [d] => { results := [.lit (.bool false)], args := [d] }
  | _ => none }
def FnExactLastGrowingWrongFalsely : Prop := fnExactLastGrowingRow.holds Try.pinned (OpenSpec.ofChange fnExactLastGrowingWrong)

/- THE SECOND FORM. 'bulk': how many values and letters a reading holds, each counted each time it is reached (what is shared counts as often as it is met; a slice's spare places count too). A statement '..UptoSaid' is the law's where the arguments, and the package variables that the reading takes, are together of bulk at most 1048576: NARROWER than '..Said'. Prove '..Said' where nothing that the law and all that it calls make is longer than what came in: it says more and counts as full. Else prove '..UptoSaid'. A law counts once. -/
mutual
def uptoBulk {H : Type} : DataW H → Nat
  | .lit (.string bytes) => bytes.length + 1
  | .lit _ => 1
  | .nil => 1
  | .ptr d => uptoBulk d + 1
  | .slice elems spare => uptoBulkAll elems + uptoBulkAll spare + 1
  | .agg parts => uptoBulkAll parts + 1
  | .iface _ d => uptoBulk d + 1
  | .map entries => uptoBulkEntries entries + 1
  | .held _ => 1
def uptoBulkAll {H : Type} : List (DataW H) → Nat
  | [] => 0
  | d :: r => uptoBulk d + uptoBulkAll r
def uptoBulkEntries {H : Type} : List (Lit × DataW H) → Nat
  | [] => 0
  | x :: r => uptoBulkEntry x + uptoBulkEntries r
def uptoBulkEntry {H : Type} : Lit × DataW H → Nat
  | (.string bytes, d) => bytes.length + uptoBulk d + 1
  | (_, d) => uptoBulk d + 1
 end
def uptoSmall : (H : Type) → List (DataW H) → Bool := fun _ ds => decide (uptoBulkAll ds ≤ 1048576)
def OpenSpec.upto (s : _root_.Go.ChangeSpec) : _root_.Go.OpenSpec := { _root_.Go.OpenSpec.ofChange s with cond := some uptoSmall }

/-- 'laws.FnExactCanTakeOut', WHERE WHAT IT READS IS OF BULK AT MOST 1048576: true; the input reads as it did. -/
def fnExactCanTakeOutUptoRow : OpenClaim := { program := "ytlealjliaifkcac", sum := "ecdbf554d2f48c698b8bb0c3ed07b1416e52d97db38bd2e0140e954f301ccc9e", func := "loop.example/g01391/laws.FnExactCanTakeOut", spec := "fnExactCanTakeOut", recurses := true, apart := false, narrowed := true }
def FnExactCanTakeOutUptoSaid : Prop := fnExactCanTakeOutUptoRow.holds Try.pinned (OpenSpec.upto fnExactCanTakeOutSpec)

/-- 'laws.FnExactNodesInCommon', WHERE WHAT IT READS IS OF BULK AT MOST 1048576: true; the input reads as it did. -/
def fnExactNodesInCommonUptoRow : OpenClaim := { program := "ytlealjliaifkcac", sum := "ecdbf554d2f48c698b8bb0c3ed07b1416e52d97db38bd2e0140e954f301ccc9e", func := "loop.example/g01391/laws.FnExactNodesInCommon", spec := "fnExactNodesInCommon", recurses := true, apart := false, narrowed := true }
def FnExactNodesInCommonUptoSaid : Prop := fnExactNodesInCommonUptoRow.holds Try.pinned (OpenSpec.upto fnExactNodesInCommonSpec)

/-- 'laws.FnExactEditDistance', WHERE WHAT IT READS IS OF BULK AT MOST 1048576: true; the input reads as it did. -/
def fnExactEditDistanceUptoRow : OpenClaim := { program := "ytlealjliaifkcac", sum := "ecdbf554d2f48c698b8bb0c3ed07b1416e52d97db38bd2e0140e954f301ccc9e", func := "loop.example/g01391/laws.FnExactEditDistance", spec := "fnExactEditDistance", recurses := true, apart := false, narrowed := true }
def FnExactEditDistanceUptoSaid : Prop := fnExactEditDistanceUptoRow.holds Try.pinned (OpenSpec.upto fnExactEditDistanceSpec)

/-- 'laws.FnExactHeavyPaths', WHERE WHAT IT READS IS OF BULK AT MOST 1048576: true; the input reads as it did. -/
def fnExactHeavyPathsUptoRow : OpenClaim := { program := "ytlealjliaifkcac", sum := "ecdbf554d2f48c698b8bb0c3ed07b1416e52d97db38bd2e0140e954f301ccc9e", func := "loop.example/g01391/laws.FnExactHeavyPaths", spec := "fnExactHeavyPaths", apart := false, narrowed := true }
def FnExactHeavyPathsUptoSaid : Prop := fnExactHeavyPathsUptoRow.holds Try.pinned (OpenSpec.upto fnExactHeavyPathsSpec)

/-- 'laws.FnExactBesideOf', WHERE WHAT IT READS IS OF BULK AT MOST 1048576: true; the input reads as it did. -/
def fnExactBesideOfUptoRow : OpenClaim := { program := "ytlealjliaifkcac", sum := "ecdbf554d2f48c698b8bb0c3ed07b1416e52d97db38bd2e0140e954f301ccc9e", func := "loop.example/g01391/laws.FnExactBesideOf", spec := "fnExactBesideOf", apart := false, narrowed := true }
def FnExactBesideOfUptoSaid : Prop := fnExactBesideOfUptoRow.holds Try.pinned (OpenSpec.upto fnExactBesideOfSpec)

/-- 'laws.FnExactLastGrowing', WHERE WHAT IT READS IS OF BULK AT MOST 1048576: true; the input reads as it did. -/
def fnExactLastGrowingUptoRow : OpenClaim := { program := "ytlealjliaifkcac", sum := "ecdbf554d2f48c698b8bb0c3ed07b1416e52d97db38bd2e0140e954f301ccc9e", func := "loop.example/g01391/laws.FnExactLastGrowing", spec := "fnExactLastGrowing", apart := false, narrowed := true }
def FnExactLastGrowingUptoSaid : Prop := fnExactLastGrowingUptoRow.holds Try.pinned (OpenSpec.upto fnExactLastGrowingSpec)

end Rows
end Go.Proofs.Ytlealjliaifkcac
