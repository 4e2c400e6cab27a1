/-
  No cell of these rows narrows 'for every input' (looked for: loops, veiled, ifaces, maps, wideKeys, modest, calm, conditions, laid).
  DERIVED. THE GIVEN ROWS OF THIS SEAT. 6 by the template 'for every input the law returns true; each argument reads behind the call as it read before'; 0 by the template 'total and deterministic' (their statements: YteangdgmokkjbaaTotals.lean).
  GIVEN WITH THE SEED: the statements are not yours to turn. If you find one false, say at which input.
  Laid BY PROGRAM, IN A SANDBOX (cutbox-rows.mjs): the forced cells as the released guide's own fill.sh prints them over the translation c67d291ee9f65aae… (all of the seat's roots in one cut). By AI agents, Wed Nov 11 2026. No macro, syntax, notation, axiom, sorry.
-/
import Derived.Test.YteangdgmokkjbaaChecked
import GoSem.Claim
import GoSem.ClaimJoined
import GoSem.ClaimMapViews
import Derived.JoinedTies
import Derived.KernelRfl
namespace Go.Proofs.Yteangdgmokkjbaa
/- THE CELL 'sum', in the pinned program and in every row, IS THE sha256 OF THE DUMP (.gsa) THAT YteangdgmokkjbaaProg.lean LOADS. Nothing in Lean hashes anything: it is a label: what it is worth is what the hold of that sum in a sandbox is worth. -/
noncomputable def Try.pinned : Pinned := { name := "yteangdgmokkjbaa", sum := "c67d291ee9f65aaebaefc0f4f7cea338c3d1649f20d51e29db10ddff20208735", checked := Try.checked }
namespace Rows
def none {H : Type} : Left H := { results := [], args := [] }

/-- 'laws.FnExactGrownTree': WHATEVER THE INPUT: true; the input reads as it did. -/
def fnExactGrownTreeSpec : ChangeSpec := { name := "fnExactGrownTree", fn := fun _ => fun
  | [d] => { results := [.lit (.bool true)], args := [d] }
  | _ => none }
def fnExactGrownTreeRow : OpenClaim := { program := "yteangdgmokkjbaa", sum := "c67d291ee9f65aaebaefc0f4f7cea338c3d1649f20d51e29db10ddff20208735", func := "loop.example/g01391/laws.FnExactGrownTree", spec := "fnExactGrownTree", unfollowed := true, recurses := true, apart := false }
def FnExactGrownTreeSaid : Prop := fnExactGrownTreeRow.holds Try.pinned (OpenSpec.ofChange fnExactGrownTreeSpec)

/-- ITS FALSE NEIGHBOUR: 'it returns false'. Refute it at one input. -/
def fnExactGrownTreeWrong : ChangeSpec := { name := "fnExactGrownTree", fn := fun _ => fun
  | [d] => { results := [.lit (.bool false)], args := [d] }
  | _ => none }
def FnExactGrownTreeWrongFalsely : Prop := fnExactGrownTreeRow.holds Try.pinned (OpenSpec.ofChange fnExactGrownTreeWrong)

/-- 'laws.FnExactListOfDecreasing': WHATEVER THE INPUT: true; the input reads as it did. -/
def fnExactListOfDecreasingSpec : ChangeSpec := { name := "fnExactListOfDecreasing", fn := fun _ => fun
  | [d] => { results := [.lit (.bool true)], args := [d] }
  | _ => none }
def fnExactListOfDecreasingRow : OpenClaim := { program := "yteangdgmokkjbaa", sum := "c67d291ee9f65aaebaefc0f4f7cea338c3d1649f20d51e29db10ddff20208735", func := "loop.example/g01391/laws.FnExactListOfDecreasing", spec := "fnExactListOfDecreasing", unfollowed := true, recurses := true, apart := false }
def FnExactListOfDecreasingSaid : Prop := fnExactListOfDecreasingRow.holds Try.pinned (OpenSpec.ofChange fnExactListOfDecreasingSpec)

/-- ITS FALSE NEIGHBOUR: 'it returns false'. Refute it at one input. -/
def fnExactListOfDecreasingWrong : ChangeSpec := { name := "fnExactListOfDecreasing", fn := fun _ => fun
  | [d] => { results := [.lit (.bool false)], args := [d] }
  | _ => none }
def FnExactListOfDecreasingWrongFalsely : Prop := fnExactListOfDecreasingRow.holds Try.pinned (OpenSpec.ofChange fnExactListOfDecreasingWrong)

/-- 'laws.FnExactCanTakeOut': WHATEVER THE INPUT: true; the input reads as it did. -/
def fnExactCanTakeOutSpec : ChangeSpec := { name := "fnExactCanTakeOut", fn := fun _ => fun
  | [d1, d2] => { results := [.lit (.bool true)], args := [d1, d2] }
  | _ => none }
def fnExactCanTakeOutRow : OpenClaim := { program := "yteangdgmokkjbaa", sum := "c67d291ee9f65aaebaefc0f4f7cea338c3d1649f20d51e29db10ddff20208735", func := "loop.example/g01391/laws.FnExactCanTakeOut", spec := "fnExactCanTakeOut", recurses := true, apart := false }
def FnExactCanTakeOutSaid : Prop := fnExactCanTakeOutRow.holds Try.pinned (OpenSpec.ofChange fnExactCanTakeOutSpec)

/-- ITS FALSE NEIGHBOUR: 'it returns false'. Refute it at one input. -/
def fnExactCanTakeOutWrong : ChangeSpec := { name := "fnExactCanTakeOut", fn := fun _ => fun
  | [d1, d2] => { results := [.lit (.bool false)], args := [d1, d2] }
  | _ => none }
def FnExactCanTakeOutWrongFalsely : Prop := fnExactCanTakeOutRow.holds Try.pinned (OpenSpec.ofChange fnExactCanTakeOutWrong)

/-- 'laws.FnExactNodesInCommon': WHATEVER THE INPUT: true; the input reads as it did. -/
def fnExactNodesInCommonSpec : ChangeSpec := { name := "fnExactNodesInCommon", fn := fun _ => fun
  | [d1, d2] => { results := [.lit (.bool true)], args := [d1, d2] }
  | _ => none }
def fnExactNodesInCommonRow : OpenClaim := { program := "yteangdgmokkjbaa", sum := "c67d291ee9f65aaebaefc0f4f7cea338c3d1649f20d51e29db10ddff20208735", func := "loop.example/g01391/laws.FnExactNodesInCommon", spec := "fnExactNodesInCommon", recurses := true, apart := false }
def FnExactNodesInCommonSaid : Prop := fnExactNodesInCommonRow.holds Try.pinned (OpenSpec.ofChange fnExactNodesInCommonSpec)

/-- ITS FALSE NEIGHBOUR: 'it returns false'. Refute it at one input. -/
def fnExactNodesInCommonWrong : ChangeSpec := { name := "fnExactNodesInCommon", fn := fun _ => fun
  | [d1, d2] => { results := [.lit (.bool false)], args := [d1, d2] }
  | _ => none }
def FnExactNodesInCommonWrongFalsely : Prop := fnExactNodesInCommonRow.holds Try.pinned (OpenSpec.ofChange fnExactNodesInCommonWrong)

/-- 'laws.FnExactEditDistance': WHATEVER THE INPUT: true; the input reads as it did. -/
def fnExactEditDistanceSpec : ChangeSpec := { name := "fnExactEditDistance", fn := fun _ => fun
  | [d1, d2] => { results := [.lit (.bool true)], args := [d1, d2] }
  | _ => none }
def fnExactEditDistanceRow : OpenClaim := { program := "yteangdgmokkjbaa", sum := "c67d291ee9f65aaebaefc0f4f7cea338c3d1649f20d51e29db10ddff20208735", func := "loop.example/g01391/laws.FnExactEditDistance", spec := "fnExactEditDistance", recurses := true, apart := false }
def FnExactEditDistanceSaid : Prop := fnExactEditDistanceRow.holds Try.pinned (OpenSpec.ofChange fnExactEditDistanceSpec)

/-- ITS FALSE NEIGHBOUR: 'it returns false'. Refute it at one input. -/
def fnExactEditDistanceWrong : ChangeSpec := { name := "fnExactEditDistance", fn := fun _ => fun
  | [d1, d2] => { results := [.lit (.bool false)], args := [d1, d2] }
  | _ => none }
def FnExactEditDistanceWrongFalsely : Prop := fnExactEditDistanceRow.holds Try.pinned (OpenSpec.ofChange fnExactEditDistanceWrong)

/-- 'laws.FnExactCommonPairs': WHATEVER THE INPUT: true; the input reads as it did. -/
def fnExactCommonPairsSpec : ChangeSpec := { name := "fnExactCommonPairs", fn := fun _ => fun
  | [d1, d2] => { results := [.lit (.bool true)], args := [d1, d2] }
  | _ => none }
def fnExactCommonPairsRow : OpenClaim := { program := "yteangdgmokkjbaa", sum := "c67d291ee9f65aaebaefc0f4f7cea338c3d1649f20d51e29db10ddff20208735", func := "loop.example/g01391/laws.FnExactCommonPairs", spec := "fnExactCommonPairs", recurses := true, apart := false }
def FnExactCommonPairsSaid : Prop := fnExactCommonPairsRow.holds Try.pinned (OpenSpec.ofChange fnExactCommonPairsSpec)

/-- ITS FALSE NEIGHBOUR: 'it returns false'. Refute it at one input. -/
def fnExactCommonPairsWrong : ChangeSpec := { name := "fnExactCommonPairs", fn := fun _ => fun
  | [d1, d2] => { results := [.lit (.bool false)], args := [d1, d2] }
  | _ => none }
def FnExactCommonPairsWrongFalsely : Prop := fnExactCommonPairsRow.holds Try.pinned (OpenSpec.ofChange fnExactCommonPairsWrong)

/- THE SECOND FORM. 'bulk': how many values and letters a reading holds, each counted each time it is reached (what is shared counts as often as it is met; a slice's spare places count too). A statement '..UptoSaid' is the law's where the arguments, and the package variables that the reading takes, are together of bulk at most 1048576: NARROWER than '..Said'. Prove '..Said' where nothing that the law and all that it calls make is longer than what came in: it says more and counts as full. Else prove '..UptoSaid'. A law counts once. -/
mutual
def uptoBulk {H : Type} : DataW H → Nat
  | .lit (.string bytes) => bytes.length + 1
  | .lit _ => 1
  | .nil => 1
  | .ptr d => uptoBulk d + 1
  | .slice elems spare => uptoBulkAll elems + uptoBulkAll spare + 1
  | .agg parts => uptoBulkAll parts + 1
  | .iface _ d => uptoBulk d + 1
  | .map entries => uptoBulkEntries entries + 1
  | .held _ => 1
def uptoBulkAll {H : Type} : List (DataW H) → Nat
  | [] => 0
  | d :: r => uptoBulk d + uptoBulkAll r
def uptoBulkEntries {H : Type} : List (Lit × DataW H) → Nat
  | [] => 0
  | x :: r => uptoBulkEntry x + uptoBulkEntries r
def uptoBulkEntry {H : Type} : Lit × DataW H → Nat
  | (.string bytes, d) => bytes.length + uptoBulk d + 1
  | (_, d) => uptoBulk d + 1
 end
def uptoSmall : (H : Type) → List (DataW H) → Bool := fun _ ds => decide (uptoBulkAll ds ≤ 1048576)
def OpenSpec.upto (s : _root_.Go.ChangeSpec) : _root_.Go.OpenSpec := { _root_.Go.OpenSpec.ofChange s with cond := some uptoSmall }

/-- 'laws.FnExactGrownTree', WHERE WHAT IT READS IS OF BULK AT MOST 1048576: true; the input reads as it did. -/
def fnExactGrownTreeUptoRow : OpenClaim := { program := "yteangdgmokkjbaa", sum := "c67d291ee9f65aaebaefc0f4f7cea338c3d1649f20d51e29db10ddff20208735", func := "loop.example/g01391/laws.FnExactGrownTree", spec := "fnExactGrownTree", unfollowed := true, recurses := true, apart := false, narrowed := true }
def FnExactGrownTreeUptoSaid : Prop := fnExactGrownTreeUptoRow.holds Try.pinned (OpenSpec.upto fnExactGrownTreeSpec)

/-- 'laws.FnExactListOfDecreasing', WHERE WHAT IT READS IS OF BULK AT MOST 1048576: true; the input reads as it did. -/
def fnExactListOfDecreasingUptoRow : OpenClaim := { program := "yteangdgmokkjbaa", sum := "c67d291ee9f65aaebaefc0f4f7cea338c3d1649f20d51e29db10ddff20208735", func := "loop.example/g01391/laws.FnExactListOfDecreasing", spec := "fnExactListOfDecreasing", unfollowed := true, recurses := true, apart := false, narrowed := true }
def FnExactListOfDecreasingUptoSaid : Prop := fnExactListOfDecreasingUptoRow.holds Try.pinned (OpenSpec.upto fnExactListOfDecreasingSpec)

/-- 'laws.FnExactCanTakeOut', WHERE WHAT IT READS IS OF BULK AT MOST 1048576: true; the input reads as it did. -/
def fnExactCanTakeOutUptoRow : OpenClaim := { program := "yteangdgmokkjbaa", sum := "c67d291ee9f65aaebaefc0f4f7cea338c3d1649f20d51e29db10ddff20208735", func := "loop.example/g01391/laws.FnExactCanTakeOut", spec := "fnExactCanTakeOut", recurses := true, apart := false, narrowed := true }
def FnExactCanTakeOutUptoSaid : Prop := fnExactCanTakeOutUptoRow.holds Try.pinned (OpenSpec.upto fnExactCanTakeOutSpec)

/-- 'laws.FnExactNodesInCommon', WHERE WHAT IT READS IS OF BULK AT MOST 1048576: true; the input reads as it did. -/
def fnExactNodesInCommonUptoRow : OpenClaim := { program := "yteangdgmokkjbaa", sum := "c67d291ee9f65aaebaefc0f4f7cea338c3d1649f20d51e29db10ddff20208735", func := "loop.example/g01391/laws.FnExactNodesInCommon", spec := "fnExactNodesInCommon", recurses := true, apart := false, narrowed := true }
def FnExactNodesInCommonUptoSaid : Prop := fnExactNodesInCommonUptoRow.holds Try.pinned (OpenSpec.upto fnExactNodesInCommonSpec)

/-- 'laws.FnExactEditDistance', WHERE WHAT IT READS IS OF BULK AT MOST 1048576: true; the input reads as it did. -/
def fnExactEditDistanceUptoRow : OpenClaim := { program := "yteangdgmokkjbaa", sum := "c67d291ee9f65aaebaefc0f4f7cea338c3d1649f20d51e29db10ddff20208735", func := "loop.example/g01391/laws.FnExactEditDistance", spec := "fnExactEditDistance", recurses := true, apart := false, narrowed := true }
def FnExactEditDistanceUptoSaid : Prop := fnExactEditDistanceUptoRow.holds Try.pinned (OpenSpec.upto fnExactEditDistanceSpec)

/-- 'laws.FnExactCommonPairs', WHERE WHAT IT READS IS OF BULK AT MOST 1048576: true; the input reads as it did. -/
def fnExactCommonPairsUptoRow : OpenClaim := { program := "yteangdgmokkjbaa", sum := "c67d291ee9f65aaebaefc0f4f7cea338c3d1649f20d51e29db10ddff20208735", func := "loop.example/g01391/laws.FnExactCommonPairs", spec := "fnExactCommonPairs", recurses := true, apart := false, narrowed := true }
def FnExactCommonPairsUptoSaid : Prop := fnExactCommonPairsUptoRow.holds Try.pinned (OpenSpec.upto fnExactCommonPairsSpec)

end Rows
end Go.Proofs.Yteangdgmokkjbaa
