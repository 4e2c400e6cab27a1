/-
  No cell of these rows narrows 'for every input' (looked for: loops, veiled, ifaces, maps, wideKeys, modest, calm, conditions, laid).
  DERIVED. THE GIVEN ROWS OF THIS SEAT. 6 by the template 'for every input the law returns true; each argument reads behind the call as it read before'; 0 by the template 'total and deterministic' (their statements: YtlmaoeahdhbkdaaTotals.lean).
  GIVEN WITH THE SEED: the statements are not yours to turn. If you find one false, say at which input.
  Laid BY PROGRAM, IN A SANDBOX (cutbox-rows.mjs): the forced cells as the released guide's own fill.sh prints them over the translation 49f4474011767340… (all of the seat's roots in one cut). By AI agents, Wed Nov 11 2026. No macro, syntax, notation, axiom, sorry.
-/
import Derived.Test.YtlmaoeahdhbkdaaChecked
import GoSem.Claim
import GoSem.ClaimJoined
import GoSem.ClaimMapViews
import Derived.JoinedTies
import Derived.KernelRfl
namespace Go.Proofs.Ytlmaoeahdhbkdaa
/- THE CELL 'sum', in the pinned program and in every row, IS THE sha256 OF THE DUMP (.gsa) THAT YtlmaoeahdhbkdaaProg.lean LOADS. Nothing in Lean hashes anything: it is a label: what it is worth is what the hold of that sum in a sandbox is worth. -/
noncomputable def Try.pinned : Pinned := { name := "ytlmaoeahdhbkdaa", sum := "49f44740117673407983df74e541bbf9f3642722de9b3410a79ed7a9f6c4eb9a", checked := Try.checked }
namespace Rows
def none {H : Type} : Left H := { results := [], args := [] }

/-- 'laws.FnExactGrownTree': WHATEVER THE INPUT: true; the input reads as it did. -/
def fnExactGrownTreeSpec : ChangeSpec := { name := "fnExactGrownTree", fn := fun _ => fun
  | [d] => { results := [.lit (.bool true)], args := [d] }
  | _ => none }
def fnExactGrownTreeRow : OpenClaim := { program := "ytlmaoeahdhbkdaa", sum := "49f44740117673407983df74e541bbf9f3642722de9b3410a79ed7a9f6c4eb9a", func := "loop.example/g01391/laws.FnExactGrownTree", spec := "fnExactGrownTree", unfollowed := true, recurses := true, apart := false }
def FnExactGrownTreeSaid : Prop := fnExactGrownTreeRow.holds Try.pinned (OpenSpec.ofChange fnExactGrownTreeSpec)

/-- ITS FALSE NEIGHBOUR: 'it returns false'. Refute it at one input. -/
def fnExactGrownTreeWrong : ChangeSpec := { name := "fnExactGrownTree", fn := fun _ => fun
  | [d] => { results := [.lit (.bool false)], args := [d] }
  | _ => none }
def FnExactGrownTreeWrongFalsely : Prop := fnExactGrownTreeRow.holds Try.pinned (OpenSpec.ofChange fnExactGrownTreeWrong)

/-- 'laws.FnExactListOfDecreasing': WHATEVER THE INPUT: true; the input reads as it did. -/
def fnExactListOfDecreasingSpec : ChangeSpec := { name := "fnExactListOfDecreasing", fn := fun _ => fun
  | [d] => { results := [.lit (.bool true)], args := [d] }
  | _ => none }
def fnExactListOfDecreasingRow : OpenClaim := { program := "ytlmaoeahdhbkdaa", sum := "49f44740117673407983df74e541bbf9f3642722de9b3410a79ed7a9f6c4eb9a", func := "loop.example/g01391/laws.FnExactListOfDecreasing", spec := "fnExactListOfDecreasing", unfollowed := true, recurses := true, apart := false }
def FnExactListOfDecreasingSaid : Prop := fnExactListOfDecreasingRow.holds Try.pinned (OpenSpec.ofChange fnExactListOfDecreasingSpec)

/-- ITS FALSE NEIGHBOUR: 'it returns false'. Refute it at one input. -/
def fnExactListOfDecreasingWrong : ChangeSpec := { name := "fnExactListOfDecreasing", fn := fun _ => fun
  | [d] => { results := [.lit (.bool false)], args := [d] }
  | _ => none }
def FnExactListOfDecreasingWrongFalsely : Prop := fnExactListOfDecreasingRow.holds Try.pinned (OpenSpec.ofChange fnExactListOfDecreasingWrong)

/-- 'laws.FnExactHeavyPaths': WHATEVER THE INPUT: true; the input reads as it did. -/
def fnExactHeavyPathsSpec : ChangeSpec := { name := "fnExactHeavyPaths", fn := fun _ => fun
  | [d] => { results := [.lit (.bool true)], args := [d] }
  | _ => none }
def fnExactHeavyPathsRow : OpenClaim := { program := "ytlmaoeahdhbkdaa", sum := "49f44740117673407983df74e541bbf9f3642722de9b3410a79ed7a9f6c4eb9a", func := "loop.example/g01391/laws.FnExactHeavyPaths", spec := "fnExactHeavyPaths", apart := false }
def FnExactHeavyPathsSaid : Prop := fnExactHeavyPathsRow.holds Try.pinned (OpenSpec.ofChange fnExactHeavyPathsSpec)

/-- ITS FALSE NEIGHBOUR: 'it returns false'. Refute it at one input. -/
def fnExactHeavyPathsWrong : ChangeSpec := { name := "fnExactHeavyPaths", fn := fun _ => fun
  | [d] => { results := [.lit (.bool false)], args := [d] }
  | _ => none }
def FnExactHeavyPathsWrongFalsely : Prop := fnExactHeavyPathsRow.holds Try.pinned (OpenSpec.ofChange fnExactHeavyPathsWrong)

/-- 'laws.FnExactExchangeAt': WHATEVER THE INPUT: true; the input reads as it did. -/
def fnExactExchangeAtSpec : ChangeSpec := { name := "fnExactExchangeAt", fn := fun _ => fun
  | [d1, d2, d3] => { results := [.lit (.bool true)], args := [d1, d2, d3] }
  | _ => none }
def fnExactExchangeAtRow : OpenClaim := { program := "ytlmaoeahdhbkdaa", sum := "49f44740117673407983df74e541bbf9f3642722de9b3410a79ed7a9f6c4eb9a", func := "loop.example/g01391/laws.FnExactExchangeAt", spec := "fnExactExchangeAt", recurses := true, apart := false }
def FnExactExchangeAtSaid : Prop := fnExactExchangeAtRow.holds Try.pinned (OpenSpec.ofChange fnExactExchangeAtSpec)

/-- ITS FALSE NEIGHBOUR: 'it returns false'. Refute it at one input. -/
def fnExactExchangeAtWrong : ChangeSpec := { name := "fnExactExchangeAt", fn := fun _ => fun
  | [d1, d2, d3] => { results := [.lit (.bool false)], args := [d1, d2, d3] }
  | _ => none }
def FnExactExchangeAtWrongFalsely : Prop := fnExactExchangeAtRow.holds Try.pinned (OpenSpec.ofChange fnExactExchangeAtWrong)

/-- 'laws.FnExactNextGrowing': WHATEVER THE INPUT: true; the input reads as it did. -/
def fnExactNextGrowingSpec : ChangeSpec := { name := "fnExactNextGrowing", fn := fun _ => fun
  | [d1, d2] => { results := [.lit (.bool true)], args := [d1, d2] }
  | _ => none }
def fnExactNextGrowingRow : OpenClaim := { program := "ytlmaoeahdhbkdaa", sum := "49f44740117673407983df74e541bbf9f3642722de9b3410a79ed7a9f6c4eb9a", func := "loop.example/g01391/laws.FnExactNextGrowing", spec := "fnExactNextGrowing", recurses := true, apart := false }
def FnExactNextGrowingSaid : Prop := fnExactNextGrowingRow.holds Try.pinned (OpenSpec.ofChange fnExactNextGrowingSpec)

/-- ITS FALSE NEIGHBOUR: 'it returns false'. Refute it at one input. -/
def fnExactNextGrowingWrong : ChangeSpec := { name := "fnExactNextGrowing", fn := fun _ => fun
  | [d1, d2] => { results := [.lit (.bool false)], args := [d1, d2] }
  | _ => none }
def FnExactNextGrowingWrongFalsely : Prop := fnExactNextGrowingRow.holds Try.pinned (OpenSpec.ofChange fnExactNextGrowingWrong)

/-- 'laws.FnExactRankOfGrowing': WHATEVER THE INPUT: true; the input reads as it did. -/
def fnExactRankOfGrowingSpec : ChangeSpec := { name := "fnExactRankOfGrowing", fn := fun _ => fun
  | [d1, d2] => { results := [.lit (.bool true)], args := [d1, d2] }
  | _ => none }
def fnExactRankOfGrowingRow : OpenClaim := { program := "ytlmaoeahdhbkdaa", sum := "49f44740117673407983df74e541bbf9f3642722de9b3410a79ed7a9f6c4eb9a", func := "loop.example/g01391/laws.FnExactRankOfGrowing", spec := "fnExactRankOfGrowing", unfollowed := true, recurses := true, apart := false }
def FnExactRankOfGrowingSaid : Prop := fnExactRankOfGrowingRow.holds Try.pinned (OpenSpec.ofChange fnExactRankOfGrowingSpec)

/-- ITS FALSE NEIGHBOUR: 'it returns false'. Refute it at one input. -/
def fnExactRankOfGrowingWrong : ChangeSpec := { name := "fnExactRankOfGrowing", fn := fun _ => fun
  | [d1, d2] => { results := [.lit (.bool false)], args := [d1, d2] }
  | _ => none }
def FnExactRankOfGrowingWrongFalsely : Prop := fnExactRankOfGrowingRow.holds Try.pinned (OpenSpec.ofChange fnExactRankOfGrowingWrong)

/- THE SECOND FORM. 'bulk': how many values and letters a reading holds, each counted each time it is reached (what is shared counts as often as it is met; a slice's spare places count too). A statement '..UptoSaid' is the law's where the arguments, and the package variables that the reading takes, are together of bulk at most 1048576: NARROWER than '..Said'. Prove '..Said' where nothing that the law and all that it calls make is longer than what came in: it says more and counts as full. Else prove '..UptoSaid'. A law counts once. -/
mutual
def uptoBulk {H : Type} : DataW H → Nat
  | .lit (.string bytes) => bytes.length + 1
  | .lit _ => 1
  | .nil => 1
  | .ptr d => uptoBulk d + 1
  | .slice elems spare => uptoBulkAll elems + uptoBulkAll spare + 1
  | .agg parts => uptoBulkAll parts + 1
  | .iface _ d => uptoBulk d + 1
  | .map entries => uptoBulkEntries entries + 1
  | .held _ => 1
def uptoBulkAll {H : Type} : List (DataW H) → Nat
  | [] => 0
  | d :: r => uptoBulk d + uptoBulkAll r
def uptoBulkEntries {H : Type} : List (Lit × DataW H) → Nat
  | [] => 0
  | x :: r => uptoBulkEntry x + uptoBulkEntries r
def uptoBulkEntry {H : Type} : Lit × DataW H → Nat
  | (.string bytes, d) => bytes.length + uptoBulk d + 1
  | (_, d) => uptoBulk d + 1
 end
def uptoSmall : (H : Type) → List (DataW H) → Bool := fun _ ds => decide (uptoBulkAll ds ≤ 1048576)
def OpenSpec.upto (s : _root_.Go.ChangeSpec) : _root_.Go.OpenSpec := { _root_.Go.OpenSpec.ofChange s with cond := some uptoSmall }

/-- 'laws.FnExactGrownTree', WHERE WHAT IT READS IS OF BULK AT MOST 1048576: true; the input reads as it did. -/
def fnExactGrownTreeUptoRow : OpenClaim := { program := "ytlmaoeahdhbkdaa", sum := "49f44740117673407983df74e541bbf9f3642722de9b3410a79ed7a9f6c4eb9a", func := "loop.example/g01391/laws.FnExactGrownTree", spec := "fnExactGrownTree", unfollowed := true, recurses := true, apart := false, narrowed := true }
def FnExactGrownTreeUptoSaid : Prop := fnExactGrownTreeUptoRow.holds Try.pinned (OpenSpec.upto fnExactGrownTreeSpec)

/-- 'laws.FnExactListOfDecreasing', WHERE WHAT IT READS IS OF BULK AT MOST 1048576: true; the input reads as it did. -/
def fnExactListOfDecreasingUptoRow : OpenClaim := { program := "ytlmaoeahdhbkdaa", sum := "49f44740117673407983df74e541bbf9f3642722de9b3410a79ed7a9f6c4eb9a", func := "loop.example/g01391/laws.FnExactListOfDecreasing", spec := "fnExactListOfDecreasing", unfollowed := true, recurses := true, apart := false, narrowed := true }
def FnExactListOfDecreasingUptoSaid : Prop := fnExactListOfDecreasingUptoRow.holds Try.pinned (OpenSpec.upto fnExactListOfDecreasingSpec)

/-- 'laws.FnExactHeavyPaths', WHERE WHAT IT READS IS OF BULK AT MOST 1048576: true; the input reads as it did. -/
def fnExactHeavyPathsUptoRow : OpenClaim := { program := "ytlmaoeahdhbkdaa", sum := "49f44740117673407983df74e541bbf9f3642722de9b3410a79ed7a9f6c4eb9a", func := "loop.example/g01391/laws.FnExactHeavyPaths", spec := "fnExactHeavyPaths", apart := false, narrowed := true }
def FnExactHeavyPathsUptoSaid : Prop := fnExactHeavyPathsUptoRow.holds Try.pinned (OpenSpec.upto fnExactHeavyPathsSpec)

/-- 'laws.FnExactExchangeAt', WHERE WHAT IT READS IS OF BULK AT MOST 1048576: true; the input reads as it did. -/
def fnExactExchangeAtUptoRow : OpenClaim := { program := "ytlmaoeahdhbkdaa", sum := "49f44740117673407983df74e541bbf9f3642722de9b3410a79ed7a9f6c4eb9a", func := "loop.example/g01391/laws.FnExactExchangeAt", spec := "fnExactExchangeAt", recurses := true, apart := false, narrowed := true }
def FnExactExchangeAtUptoSaid : Prop := fnExactExchangeAtUptoRow.holds Try.pinned (OpenSpec.upto fnExactExchangeAtSpec)

/-- 'laws.FnExactNextGrowing', WHERE WHAT IT READS IS OF BULK AT MOST 1048576: true; the input reads as it did. -/
def fnExactNextGrowingUptoRow : OpenClaim := { program := "ytlmaoeahdhbkdaa", sum := "49f44740117673407983df74e541bbf9f3642722de9b3410a79ed7a9f6c4eb9a", func := "loop.example/g01391/laws.FnExactNextGrowing", spec := "fnExactNextGrowing", recurses := true, apart := false, narrowed := true }
def FnExactNextGrowingUptoSaid : Prop := fnExactNextGrowingUptoRow.holds Try.pinned (OpenSpec.upto fnExactNextGrowingSpec)

/-- 'laws.FnExactRankOfGrowing', WHERE WHAT IT READS IS OF BULK AT MOST 1048576: true; the input reads as it did. -/
def fnExactRankOfGrowingUptoRow : OpenClaim := { program := "ytlmaoeahdhbkdaa", sum := "49f44740117673407983df74e541bbf9f3642722de9b3410a79ed7a9f6c4eb9a", func := "loop.example/g01391/laws.FnExactRankOfGrowing", spec := "fnExactRankOfGrowing", unfollowed := true, recurses := true, apart := false, narrowed := true }
def FnExactRankOfGrowingUptoSaid : Prop := fnExactRankOfGrowingUptoRow.holds Try.pinned (OpenSpec.upto fnExactRankOfGrowingSpec)

end Rows
end Go.Proofs.Ytlmaoeahdhbkdaa
