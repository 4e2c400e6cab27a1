/-
  No cell of these rows narrows 'for every input' (looked for: loops, veiled, ifaces, maps, wideKeys, modest, calm, conditions, laid).
  DERIVED. THE GIVEN ROWS OF THIS SEAT. 6 by the template 'for every input the law returns true; each argument reads behind the call as it read before'; 0 by the template 'total and deterministic' (their statements: YtdgldpbjdeikeaaTotals.lean).
  GIVEN WITH THE SEED: the statements are not yours to turn. If you find one false, say at which input.
  Laid BY PROGRAM, IN A SANDBOX (cutbox-rows.mjs): the forced cells as the released guide's own fill.sh prints them over the translation 5af50fddc5283e42… (all of the seat's roots in one cut). By AI agents, Wed Nov 11 2026. No macro, syntax, notation, axiom, sorry.
-/
import Derived.Test.YtdgldpbjdeikeaaChecked
import GoSem.Claim
import GoSem.ClaimJoined
import GoSem.ClaimMapViews
import Derived.JoinedTies
import Derived.KernelRfl
namespace Go.Proofs.Ytdgldpbjdeikeaa
/- THE CELL 'sum', in the pinned program and in every row, IS THE sha256 OF THE DUMP (.gsa) THAT YtdgldpbjdeikeaaProg.lean LOADS. Nothing in Lean hashes anything: it is a label: what it is worth is what the hold of that sum in a sandbox is worth. -/
noncomputable def Try.pinned : Pinned := { name := "ytdgldpbjdeikeaa", sum := "5af50fddc5283e42ab8f0093de0f54c4dd8d9daf109f53b248f5692064cfde6d", checked := Try.checked }
namespace Rows
def none {H : Type} : Left H := { results := [], args := [] }

/-- 'laws.FnExactGrownTree': WHATEVER THE INPUT: true; the input reads as it did. -/
def fnExactGrownTreeSpec : ChangeSpec := { name := "fnExactGrownTree", fn := fun _ => fun
  | [d] => { results := [.lit (.bool true)], args := [d] }
  | _ => none }
def fnExactGrownTreeRow : OpenClaim := { program := "ytdgldpbjdeikeaa", sum := "5af50fddc5283e42ab8f0093de0f54c4dd8d9daf109f53b248f5692064cfde6d", func := "loop.example/g01391/laws.FnExactGrownTree", spec := "fnExactGrownTree", unfollowed := true, recurses := true, apart := false }
def FnExactGrownTreeSaid : Prop := fnExactGrownTreeRow.holds Try.pinned (OpenSpec.ofChange fnExactGrownTreeSpec)

/-- ITS FALSE NEIGHBOUR: 'it returns false'. Refute it at one input. -/
def fnExactGrownTreeWrong : ChangeSpec := { name := "fnExactGrownTree", fn := fun _ => fun
  | [d] => { results := [.lit (.bool false)], args := [d] }
  | _ => none }
def FnExactGrownTreeWrongFalsely : Prop := fnExactGrownTreeRow.holds Try.pinned (OpenSpec.ofChange fnExactGrownTreeWrong)

/-- 'laws.FnExactListOfDecreasing': WHATEVER THE INPUT: true; the input reads as it did. -/
def fnExactListOfDecreasingSpec : ChangeSpec := { name := "fnExactListOfDecreasing", fn := fun _ => fun
  | [d] => { results := [.lit (.bool true)], args := [d] }
  | _ => none }
def fnExactListOfDecreasingRow : OpenClaim := { program := "ytdgldpbjdeikeaa", sum := "5af50fddc5283e42ab8f0093de0f54c4dd8d9daf109f53b248f5692064cfde6d", func := "loop.example/g01391/laws.FnExactListOfDecreasing", spec := "fnExactListOfDecreasing", unfollowed := true, recurses := true, apart := false }
def FnExactListOfDecreasingSaid : Prop := fnExactListOfDecreasingRow.holds Try.pinned (OpenSpec.ofChange fnExactListOfDecreasingSpec)

/-- ITS FALSE NEIGHBOUR: 'it returns false'. Refute it at one input. -/
def fnExactListOfDecreasingWrong : ChangeSpec := { name := "fnExactListOfDecreasing", fn := fun _ => fun
  | [d] => { results := [.lit (.bool false)], args := [d] }
  | _ => none }
def FnExactListOfDecreasingWrongFalsely : Prop := fnExactListOfDecreasingRow.holds Try.pinned (OpenSpec.ofChange fnExactListOfDecreasingWrong)

/-- 'laws.FnExactIntervalOf': WHATEVER THE INPUT: true; the input reads as it did. -/
def fnExactIntervalOfSpec : ChangeSpec := { name := "fnExactIntervalOf", fn := fun _ => fun
  | [d1, d2] => { results := [.lit (.bool true)], args := [d1, d2] }
  | _ => none }
def fnExactIntervalOfRow : OpenClaim := { program := "ytdgldpbjdeikeaa", sum := "5af50fddc5283e42ab8f0093de0f54c4dd8d9daf109f53b248f5692064cfde6d", func := "loop.example/g01391/laws.FnExactIntervalOf", spec := "fnExactIntervalOf", apart := false }
def FnExactIntervalOfSaid : Prop := fnExactIntervalOfRow.holds Try.pinned (OpenSpec.ofChange fnExactIntervalOfSpec)

/-- ITS FALSE NEIGHBOUR: 'it returns false'. Refute it at one input. -/
def fnExactIntervalOfWrong : ChangeSpec := { name := "fnExactIntervalOf", fn := fun _ => fun
  | [d1, d2] => { results := [.lit (.bool false)], args := [d1, d2] }
  | _ => none }
def FnExactIntervalOfWrongFalsely : Prop := fnExactIntervalOfRow.holds Try.pinned (OpenSpec.ofChange fnExactIntervalOfWrong)

/-- 'laws.FnExactLeafDistance': WHATEVER THE INPUT: true; the input reads as it did. -/
def fnExactLeafDistanceSpec : ChangeSpec := { name := "fnExactLeafDistance", fn := fun _ => fun
  | [d1, d2] => { results := [.lit (.bool true)], args := [d1, d2] }
  | _ => none }
def fnExactLeafDistanceRow : OpenClaim := { program := "ytdgldpbjdeikeaa", sum := "5af50fddc5283e42ab8f0093de0f54c4dd8d9daf109f53b248f5692064cfde6d", func := "loop.example/g01391/laws.FnExactLeafDistance", spec := "fnExactLeafDistance", recurses := true, apart := false }
def FnExactLeafDistanceSaid : Prop := fnExactLeafDistanceRow.holds Try.pinned (OpenSpec.ofChange fnExactLeafDistanceSpec)

/-- ITS FALSE NEIGHBOUR: 'it returns false'. Refute it at one input. -/
def fnExactLeafDistanceWrong : ChangeSpec := { name := "fnExactLeafDistance", fn := fun _ => fun
  | [d1, d2] => { results := [.lit (.bool false)], args := [d1, d2] }
  | _ => none }
def FnExactLeafDistanceWrongFalsely : Prop := fnExactLeafDistanceRow.holds Try.pinned (OpenSpec.ofChange fnExactLeafDistanceWrong)

/-- 'laws.FnExactFirstGrowing': WHATEVER THE INPUT: true; the input reads as it did. -/
def fnExactFirstGrowingSpec : ChangeSpec := { name := "fnExactFirstGrowing", fn := fun _ => fun
  | [d] => { results := [.lit (.bool true)], args := [d] }
  | _ => none }
def fnExactFirstGrowingRow : OpenClaim := { program := "ytdgldpbjdeikeaa", sum := "5af50fddc5283e42ab8f0093de0f54c4dd8d9daf109f53b248f5692064cfde6d", func := "loop.example/g01391/laws.FnExactFirstGrowing", spec := "fnExactFirstGrowing", apart := false }
def FnExactFirstGrowingSaid : Prop := fnExactFirstGrowingRow.holds Try.pinned (OpenSpec.ofChange fnExactFirstGrowingSpec)

/-- ITS FALSE NEIGHBOUR: 'it returns false'. Refute it at one input. -/
def fnExactFirstGrowingWrong : ChangeSpec := { name := "fnExactFirstGrowing", fn := fun _ => fun
  | [d] => { results := [.lit (.bool false)], args := [d] }
  | _ => none }
def FnExactFirstGrowingWrongFalsely : Prop := fnExactFirstGrowingRow.holds Try.pinned (OpenSpec.ofChange fnExactFirstGrowingWrong)

/-- 'laws.FnExactHeavyChildren': WHATEVER THE INPUT: true; the input reads as it did. -/
def fnExactHeavyChildrenSpec : ChangeSpec := { name := "fnExactHeavyChildren", fn := fun _ => fun
  | [d] => { results := [.lit (.bool true)], args := [d] }
  | _ => none }
def fnExactHeavyChildrenRow : OpenClaim := { program := "ytdgldpbjdeikeaa", sum := "5af50fddc5283e42ab8f0093de0f54c4dd8d9daf109f53b248f5692064cfde6d", func := "loop.example/g01391/laws.FnExactHeavyChildren", spec := "fnExactHeavyChildren", apart := false }
def FnExactHeavyChildrenSaid : Prop := fnExactHeavyChildrenRow.holds Try.pinned (OpenSpec.ofChange fnExactHeavyChildrenSpec)

/-- ITS FALSE NEIGHBOUR: 'it returns false'. Refute it at one input. -/
def fnExactHeavyChildrenWrong : ChangeSpec := { name := "fnExactHeavyChildren", fn := fun _ => fun
  | [d] => { results := [.lit (.bool false)], args := [d] }
  | _ => none }
def FnExactHeavyChildrenWrongFalsely : Prop := fnExactHeavyChildrenRow.holds Try.pinned (OpenSpec.ofChange fnExactHeavyChildrenWrong)

/- THE SECOND FORM. 'bulk': how many values and letters a reading holds, each counted each time it is reached (what is shared counts as often as it is met; a slice's spare places count too). A statement '..UptoSaid' is the law's where the arguments, and the package variables that the reading takes, are together of bulk at most 1048576: NARROWER than '..Said'. Prove '..Said' where nothing that the law and all that it calls make is longer than what came in: it says more and counts as full. Else prove '..UptoSaid'. A law counts once. -/
mutual
def uptoBulk {H : Type} : DataW H → Nat
  | .lit (.string bytes) => bytes.length + 1
  | .lit _ => 1
  | .nil => 1
  | .ptr d => uptoBulk d + 1
  | .slice elems spare => uptoBulkAll elems + uptoBulkAll spare + 1
  | .agg parts => uptoBulkAll parts + 1
  | .iface _ d => uptoBulk d + 1
  | .map entries => uptoBulkEntries entries + 1
  | .held _ => 1
def uptoBulkAll {H : Type} : List (DataW H) → Nat
  | [] => 0
  | d :: r => uptoBulk d + uptoBulkAll r
def uptoBulkEntries {H : Type} : List (Lit × DataW H) → Nat
  | [] => 0
  | x :: r => uptoBulkEntry x + uptoBulkEntries r
def uptoBulkEntry {H : Type} : Lit × DataW H → Nat
  | (.string bytes, d) => bytes.length + uptoBulk d + 1
  | (_, d) => uptoBulk d + 1
 end
def uptoSmall : (H : Type) → List (DataW H) → Bool := fun _ ds => decide (uptoBulkAll ds ≤ 1048576)
def OpenSpec.upto (s : _root_.Go.ChangeSpec) : _root_.Go.OpenSpec := { _root_.Go.OpenSpec.ofChange s with cond := some uptoSmall }

/-- 'laws.FnExactGrownTree', WHERE WHAT IT READS IS OF BULK AT MOST 1048576: true; the input reads as it did. -/
def fnExactGrownTreeUptoRow : OpenClaim := { program := "ytdgldpbjdeikeaa", sum := "5af50fddc5283e42ab8f0093de0f54c4dd8d9daf109f53b248f5692064cfde6d", func := "loop.example/g01391/laws.FnExactGrownTree", spec := "fnExactGrownTree", unfollowed := true, recurses := true, apart := false, narrowed := true }
def FnExactGrownTreeUptoSaid : Prop := fnExactGrownTreeUptoRow.holds Try.pinned (OpenSpec.upto fnExactGrownTreeSpec)

/-- 'laws.FnExactListOfDecreasing', WHERE WHAT IT READS IS OF BULK AT MOST 1048576: true; the input reads as it did. -/
def fnExactListOfDecreasingUptoRow : OpenClaim := { program := "ytdgldpbjdeikeaa", sum := "5af50fddc5283e42ab8f0093de0f54c4dd8d9daf109f53b248f5692064cfde6d", func := "loop.example/g01391/laws.FnExactListOfDecreasing", spec := "fnExactListOfDecreasing", unfollowed := true, recurses := true, apart := false, narrowed := true }
def FnExactListOfDecreasingUptoSaid : Prop := fnExactListOfDecreasingUptoRow.holds Try.pinned (OpenSpec.upto fnExactListOfDecreasingSpec)

/-- 'laws.FnExactIntervalOf', WHERE WHAT IT READS IS OF BULK AT MOST 1048576: true; the input reads as it did. -/
def fnExactIntervalOfUptoRow : OpenClaim := { program := "ytdgldpbjdeikeaa", sum := "5af50fddc5283e42ab8f0093de0f54c4dd8d9daf109f53b248f5692064cfde6d", func := "loop.example/g01391/laws.FnExactIntervalOf", spec := "fnExactIntervalOf", apart := false, narrowed := true }
def FnExactIntervalOfUptoSaid : Prop := fnExactIntervalOfUptoRow.holds Try.pinned (OpenSpec.upto fnExactIntervalOfSpec)

/-- 'laws.FnExactLeafDistance', WHERE WHAT IT READS IS OF BULK AT MOST 1048576: true; the input reads as it did. -/
def fnExactLeafDistanceUptoRow : OpenClaim := { program := "ytdgldpbjdeikeaa", sum := "5af50fddc5283e42ab8f0093de0f54c4dd8d9daf109f53b248f5692064cfde6d", func := "loop.example/g01391/laws.FnExactLeafDistance", spec := "fnExactLeafDistance", recurses := true, apart := false, narrowed := true }
def FnExactLeafDistanceUptoSaid : Prop := fnExactLeafDistanceUptoRow.holds Try.pinned (OpenSpec.upto fnExactLeafDistanceSpec)

/-- 'laws.FnExactFirstGrowing', WHERE WHAT IT READS IS OF BULK AT MOST 1048576: true; the input reads as it did. -/
def fnExactFirstGrowingUptoRow : OpenClaim := { program := "ytdgldpbjdeikeaa", sum := "5af50fddc5283e42ab8f0093de0f54c4dd8d9daf109f53b248f5692064cfde6d", func := "loop.example/g01391/laws.FnExactFirstGrowing", spec := "fnExactFirstGrowing", apart := false, narrowed := true }
def FnExactFirstGrowingUptoSaid : Prop := fnExactFirstGrowingUptoRow.holds Try.pinned (OpenSpec.upto fnExactFirstGrowingSpec)

/-- 'laws.FnExactHeavyChildren', WHERE WHAT IT READS IS OF BULK AT MOST 1048576: true; the input reads as it did. -/
def fnExactHeavyChildrenUptoRow : OpenClaim := { program := "ytdgldpbjdeikeaa", sum := "5af50fddc5283e42ab8f0093de0f54c4dd8d9daf109f53b248f5692064cfde6d", func := "loop.example/g01391/laws.FnExactHeavyChildren", spec := "fnExactHeavyChildren", apart := false, narrowed := true }
def FnExactHeavyChildrenUptoSaid : Prop := fnExactHeavyChildrenUptoRow.holds Try.pinned (OpenSpec.upto fnExactHeavyChildrenSpec)

end Rows
end Go.Proofs.Ytdgldpbjdeikeaa
