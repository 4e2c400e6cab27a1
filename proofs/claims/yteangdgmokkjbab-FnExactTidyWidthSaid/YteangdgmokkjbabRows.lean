/-
  No cell of these rows narrows 'for every input' (looked for: loops, veiled, ifaces, maps, wideKeys, modest, calm, conditions, laid).
  DERIVED. THE GIVEN ROWS OF THIS SEAT. 6 by the template 'for every input the law returns true; each argument reads behind the call as it read before'; 0 by the template 'total and deterministic' (their statements: YteangdgmokkjbabTotals.lean).
  GIVEN WITH THE SEED: the statements are not yours to turn. If you find one false, say at which input.
  Laid BY PROGRAM, IN A SANDBOX (cutbox-rows.mjs): the forced cells as the released guide's own fill.sh prints them over the translation 99f74396e71f46b8… (all of the seat's roots in one cut). By AI agents, Wed Nov 11 2026. No macro, syntax, notation, axiom, sorry.
-/
import Derived.Test.YteangdgmokkjbabChecked
import GoSem.Claim
import GoSem.ClaimJoined
import GoSem.ClaimMapViews
import Derived.JoinedTies
import Derived.KernelRfl
namespace Go.Proofs.Yteangdgmokkjbab
/- THE CELL 'sum', in the pinned program and in every row, IS THE sha256 OF THE DUMP (.gsa) THAT YteangdgmokkjbabProg.lean LOADS. Nothing in Lean hashes anything: it is a label: what it is worth is what the hold of that sum in a sandbox is worth. -/
noncomputable def Try.pinned : Pinned := { name := "yteangdgmokkjbab", sum := "99f74396e71f46b8a53db6479fe321efbbfa779472426d3a21038ebd9a3863e4", checked := Try.checked }
namespace Rows
def none {H : Type} : Left H := { results := [], args := [] }

/-- 'laws.FnExactPutIn': WHATEVER THE INPUT: true; the input reads as it did. -/
def fnExactPutInSpec : ChangeSpec := { name := "fnExactPutIn", fn := fun _ => fun
  | [d1, d2, d3, d4] => { results := [.lit (.bool true)], args := [d1, d2, d3, d4] }
  | _ => none }
def fnExactPutInRow : OpenClaim := { program := "yteangdgmokkjbab", sum := "99f74396e71f46b8a53db6479fe321efbbfa779472426d3a21038ebd9a3863e4", func := "loop.example/g01391/laws.FnExactPutIn", spec := "fnExactPutIn", inPlace := ["slices.overlaps[int64]"], apart := false }
def FnExactPutInSaid : Prop := fnExactPutInRow.holds Try.pinned (OpenSpec.ofChange fnExactPutInSpec)

/-- ITS FALSE NEIGHBOUR: 'it returns false'. Refute it at one input. -/
def fnExactPutInWrong : ChangeSpec := { name := "fnExactPutIn", fn := fun _ => fun
  | [d1, d2, d3, d4] => { results := [.lit (.bool false)], args := [d1, d2, d3, d4] }
  | _ => none }
def FnExactPutInWrongFalsely : Prop := fnExactPutInRow.holds Try.pinned (OpenSpec.ofChange fnExactPutInWrong)

/-- 'laws.FnExactTidyWidth': WHATEVER THE INPUT: true; the input reads as it did. -/
def fnExactTidyWidthSpec : ChangeSpec := { name := "fnExactTidyWidth", fn := fun _ => fun
  | [d] => { results := [.lit (.bool true)], args := [d] }
  | _ => none }
def fnExactTidyWidthRow : OpenClaim := { program := "yteangdgmokkjbab", sum := "99f74396e71f46b8a53db6479fe321efbbfa779472426d3a21038ebd9a3863e4", func := "loop.example/g01391/laws.FnExactTidyWidth", spec := "fnExactTidyWidth", recurses := true, apart := false }
def FnExactTidyWidthSaid : Prop := fnExactTidyWidthRow.holds Try.pinned (OpenSpec.ofChange fnExactTidyWidthSpec)

/-- ITS FALSE NEIGHBOUR: 'it returns false'. Refute it at one input. -/
def fnExactTidyWidthWrong : ChangeSpec := { name := "fnExactTidyWidth", fn := fun _ => fun
  | [d] => { results := [.lit (.bool false)], args := [d] }
  | _ => none }
def FnExactTidyWidthWrongFalsely : Prop := fnExactTidyWidthRow.holds Try.pinned (OpenSpec.ofChange fnExactTidyWidthWrong)

/-- 'laws.FnExactTidyColumns': WHATEVER THE INPUT: true; the input reads as it did. -/
def fnExactTidyColumnsSpec : ChangeSpec := { name := "fnExactTidyColumns", fn := fun _ => fun
  | [d] => { results := [.lit (.bool true)], args := [d] }
  | _ => none }
def fnExactTidyColumnsRow : OpenClaim := { program := "yteangdgmokkjbab", sum := "99f74396e71f46b8a53db6479fe321efbbfa779472426d3a21038ebd9a3863e4", func := "loop.example/g01391/laws.FnExactTidyColumns", spec := "fnExactTidyColumns", recurses := true, apart := false }
def FnExactTidyColumnsSaid : Prop := fnExactTidyColumnsRow.holds Try.pinned (OpenSpec.ofChange fnExactTidyColumnsSpec)

/-- ITS FALSE NEIGHBOUR: 'it returns false'. Refute it at one input. -/
def fnExactTidyColumnsWrong : ChangeSpec := { name := "fnExactTidyColumns", fn := fun _ => fun
  | [d] => { results := [.lit (.bool false)], args := [d] }
  | _ => none }
def FnExactTidyColumnsWrongFalsely : Prop := fnExactTidyColumnsRow.holds Try.pinned (OpenSpec.ofChange fnExactTidyColumnsWrong)

/-- 'laws.FnExactListOfGrowth': WHATEVER THE INPUT: true; the input reads as it did. -/
def fnExactListOfGrowthSpec : ChangeSpec := { name := "fnExactListOfGrowth", fn := fun _ => fun
  | [d1, d2] => { results := [.lit (.bool true)], args := [d1, d2] }
  | _ => none }
def fnExactListOfGrowthRow : OpenClaim := { program := "yteangdgmokkjbab", sum := "99f74396e71f46b8a53db6479fe321efbbfa779472426d3a21038ebd9a3863e4", func := "loop.example/g01391/laws.FnExactListOfGrowth", spec := "fnExactListOfGrowth", unfollowed := true, recurses := true, apart := false }
def FnExactListOfGrowthSaid : Prop := fnExactListOfGrowthRow.holds Try.pinned (OpenSpec.ofChange fnExactListOfGrowthSpec)

/-- ITS FALSE NEIGHBOUR: 'it returns false'. Refute it at one input. -/
def fnExactListOfGrowthWrong : ChangeSpec := { name := "fnExactListOfGrowth", fn := fun _ => fun
  | [d1, d2] => { results := [.lit (.bool false)], args := [d1, d2] }
  | _ => none }
def FnExactListOfGrowthWrongFalsely : Prop := fnExactListOfGrowthRow.holds Try.pinned (OpenSpec.ofChange fnExactListOfGrowthWrong)

/-- 'laws.FnInside': WHATEVER THE INPUT: true; the input reads as it did. -/
def fnInsideSpec : ChangeSpec := { name := "fnInside", fn := fun _ => fun
  | [d] => { results := [.lit (.bool true)], args := [d] }
  | _ => none }
def fnInsideRow : OpenClaim := { program := "yteangdgmokkjbab", sum := "99f74396e71f46b8a53db6479fe321efbbfa779472426d3a21038ebd9a3863e4", func := "loop.example/g01391/laws.FnInside", spec := "fnInside", unfollowed := true, recurses := true, apart := false }
def FnInsideSaid : Prop := fnInsideRow.holds Try.pinned (OpenSpec.ofChange fnInsideSpec)

/-- ITS FALSE NEIGHBOUR: 'it returns false'. Refute it at one input. -/
def fnInsideWrong : ChangeSpec := { name := "fnInside", fn := fun _ => fun
  | [d] => { results := [.lit (.bool false)], args := [d] }
  | _ => none }
def FnInsideWrongFalsely : Prop := fnInsideRow.holds Try.pinned (OpenSpec.ofChange fnInsideWrong)

/-- 'laws.FnExactCommonPattern': WHATEVER THE INPUT: true; the input reads as it did. -/
def fnExactCommonPatternSpec : ChangeSpec := { name := "fnExactCommonPattern", fn := fun _ => fun
  | [d1, d2] => { results := [.lit (.bool true)], args := [d1, d2] }
  | _ => none }
def fnExactCommonPatternRow : OpenClaim := { program := "yteangdgmokkjbab", sum := "99f74396e71f46b8a53db6479fe321efbbfa779472426d3a21038ebd9a3863e4", func := "loop.example/g01391/laws.FnExactCommonPattern", spec := "fnExactCommonPattern", recurses := true, apart := false }
def FnExactCommonPatternSaid : Prop := fnExactCommonPatternRow.holds Try.pinned (OpenSpec.ofChange fnExactCommonPatternSpec)

/-- ITS FALSE NEIGHBOUR: 'it returns false'. Refute it at one input. -/
def fnExactCommonPatternWrong : ChangeSpec := { name := "fnExactCommonPattern", fn := fun _ => fun
  | [d1, d2] => { results := [.lit (.bool false)], args := [d1, d2] }
  | _ => none }
def FnExactCommonPatternWrongFalsely : Prop := fnExactCommonPatternRow.holds Try.pinned (OpenSpec.ofChange fnExactCommonPatternWrong)

/- THE SECOND FORM. 'bulk': how many values and letters a reading holds, each counted each time it is reached (what is shared counts as often as it is met; a slice's spare places count too). A statement '..UptoSaid' is the law's where the arguments, and the package variables that the reading takes, are together of bulk at most 1048576: NARROWER than '..Said'. Prove '..Said' where nothing that the law and all that it calls make is longer than what came in: it says more and counts as full. Else prove '..UptoSaid'. A law counts once. -/
mutual
def uptoBulk {H : Type} : DataW H → Nat
  | .lit (.string bytes) => bytes.length + 1
  | .lit _ => 1
  | .nil => 1
  | .ptr d => uptoBulk d + 1
  | .slice elems spare => uptoBulkAll elems + uptoBulkAll spare + 1
  | .agg parts => uptoBulkAll parts + 1
  | .iface _ d => uptoBulk d + 1
  | .map entries => uptoBulkEntries entries + 1
  | .held _ => 1
def uptoBulkAll {H : Type} : List (DataW H) → Nat
  | [] => 0
  | d :: r => uptoBulk d + uptoBulkAll r
def uptoBulkEntries {H : Type} : List (Lit × DataW H) → Nat
  | [] => 0
  | x :: r => uptoBulkEntry x + uptoBulkEntries r
def uptoBulkEntry {H : Type} : Lit × DataW H → Nat
  | (.string bytes, d) => bytes.length + uptoBulk d + 1
  | (_, d) => uptoBulk d + 1
 end
def uptoSmall : (H : Type) → List (DataW H) → Bool := fun _ ds => decide (uptoBulkAll ds ≤ 1048576)
def OpenSpec.upto (s : _root_.Go.ChangeSpec) : _root_.Go.OpenSpec := { _root_.Go.OpenSpec.ofChange s with cond := some uptoSmall }

/-- 'laws.FnExactPutIn', WHERE WHAT IT READS IS OF BULK AT MOST 1048576: true; the input reads as it did. -/
def fnExactPutInUptoRow : OpenClaim := { program := "yteangdgmokkjbab", sum := "99f74396e71f46b8a53db6479fe321efbbfa779472426d3a21038ebd9a3863e4", func := "loop.example/g01391/laws.FnExactPutIn", spec := "fnExactPutIn", inPlace := ["slices.overlaps[int64]"], apart := false, narrowed := true }
def FnExactPutInUptoSaid : Prop := fnExactPutInUptoRow.holds Try.pinned (OpenSpec.upto fnExactPutInSpec)

/-- 'laws.FnExactTidyWidth', WHERE WHAT IT READS IS OF BULK AT MOST 1048576: true; the input reads as it did. -/
def fnExactTidyWidthUptoRow : OpenClaim := { program := "yteangdgmokkjbab", sum := "99f74396e71f46b8a53db6479fe321efbbfa779472426d3a21038ebd9a3863e4", func := "loop.example/g01391/laws.FnExactTidyWidth", spec := "fnExactTidyWidth", recurses := true, apart := false, narrowed := true }
def FnExactTidyWidthUptoSaid : Prop := fnExactTidyWidthUptoRow.holds Try.pinned (OpenSpec.upto fnExactTidyWidthSpec)

/-- 'laws.FnExactTidyColumns', WHERE WHAT IT READS IS OF BULK AT MOST 1048576: true; the input reads as it did. -/
def fnExactTidyColumnsUptoRow : OpenClaim := { program := "yteangdgmokkjbab", sum := "99f74396e71f46b8a53db6479fe321efbbfa779472426d3a21038ebd9a3863e4", func := "loop.example/g01391/laws.FnExactTidyColumns", spec := "fnExactTidyColumns", recurses := true, apart := false, narrowed := true }
def FnExactTidyColumnsUptoSaid : Prop := fnExactTidyColumnsUptoRow.holds Try.pinned (OpenSpec.upto fnExactTidyColumnsSpec)

/-- 'laws.FnExactListOfGrowth', WHERE WHAT IT READS IS OF BULK AT MOST 1048576: true; the input reads as it did. -/
def fnExactListOfGrowthUptoRow : OpenClaim := { program := "yteangdgmokkjbab", sum := "99f74396e71f46b8a53db6479fe321efbbfa779472426d3a21038ebd9a3863e4", func := "loop.example/g01391/laws.FnExactListOfGrowth", spec := "fnExactListOfGrowth", unfollowed := true, recurses := true, apart := false, narrowed := true }
def FnExactListOfGrowthUptoSaid : Prop := fnExactListOfGrowthUptoRow.holds Try.pinned (OpenSpec.upto fnExactListOfGrowthSpec)

/-- 'laws.FnInside', WHERE WHAT IT READS IS OF BULK AT MOST 1048576: true; the input reads as it did. -/
def fnInsideUptoRow : OpenClaim := { program := "yteangdgmokkjbab", sum := "99f74396e71f46b8a53db6479fe321efbbfa779472426d3a21038ebd9a3863e4", func := "loop.example/g01391/laws.FnInside", spec := "fnInside", unfollowed := true, recurses := true, apart := false, narrowed := true }
def FnInsideUptoSaid : Prop := fnInsideUptoRow.holds Try.pinned (OpenSpec.upto fnInsideSpec)

/-- 'laws.FnExactCommonPattern', WHERE WHAT IT READS IS OF BULK AT MOST 1048576: true; the input reads as it did. -/
def fnExactCommonPatternUptoRow : OpenClaim := { program := "yteangdgmokkjbab", sum := "99f74396e71f46b8a53db6479fe321efbbfa779472426d3a21038ebd9a3863e4", func := "loop.example/g01391/laws.FnExactCommonPattern", spec := "fnExactCommonPattern", recurses := true, apart := false, narrowed := true }
def FnExactCommonPatternUptoSaid : Prop := fnExactCommonPatternUptoRow.holds Try.pinned (OpenSpec.upto fnExactCommonPatternSpec)

end Rows
end Go.Proofs.Yteangdgmokkjbab
