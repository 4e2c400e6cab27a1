/-
  No cell of these rows narrows 'for every input' (looked for: loops, veiled, ifaces, maps, wideKeys, modest, calm, conditions, laid).
  DERIVED. THE GIVEN ROWS OF THIS SEAT. 6 by the template 'for every input the law returns true; each argument reads behind the call as it read before'; 0 by the template 'total and deterministic' (their statements: YtlealjliaifkcafTotals.lean).
  GIVEN WITH THE SEED: the statements are not yours to turn. If you find one false, say at which input.
  Laid BY PROGRAM, IN A SANDBOX (cutbox-rows.mjs): the forced cells as the released guide's own fill.sh prints them over the translation bf7bfab7db758920… (all of the seat's roots in one cut). By AI agents, Wed Nov 11 2026. No macro, syntax, notation, axiom, sorry.
-/
import Derived.Test.YtlealjliaifkcafChecked
import GoSem.Claim
import GoSem.ClaimJoined
import GoSem.ClaimMapViews
import Derived.JoinedTies
import Derived.KernelRfl
namespace Go.Proofs.Ytlealjliaifkcaf
/- THE CELL 'sum', in the pinned program and in every row, IS THE sha256 OF THE DUMP (.gsa) THAT YtlealjliaifkcafProg.lean LOADS. Nothing in Lean hashes anything: it is a label: what it is worth is what the hold of that sum in a sandbox is worth. -/
noncomputable def Try.pinned : Pinned := { name := "ytlealjliaifkcaf", sum := "bf7bfab7db7589207cc951c7b24475f90ab7360974c1f4e0f1bfc6ca121e809c", checked := Try.checked }
namespace Rows
def none {H : Type} : Left H := { results := [], args := [] }

/-- 'laws.FnExactIsGrowing': WHATEVER THE INPUT: true; the input reads as it did. -/
def fnExactIsGrowingSpec : ChangeSpec := { name := "fnExactIsGrowing", fn := fun _ => fun
  | [d1, d2] => { results := [.lit (.bool true)], args := [d1, d2] }
  | _ => none }
def fnExactIsGrowingRow : OpenClaim := { program := "ytlealjliaifkcaf", sum := "bf7bfab7db7589207cc951c7b24475f90ab7360974c1f4e0f1bfc6ca121e809c", func := "loop.example/g01391/laws.FnExactIsGrowing", spec := "fnExactIsGrowing", recurses := true, apart := false }
def FnExactIsGrowingSaid : Prop := fnExactIsGrowingRow.holds Try.pinned (OpenSpec.ofChange fnExactIsGrowingSpec)

/-- ITS FALSE NEIGHBOUR: 'it returns false'. Refute it at one input. -/
def fnExactIsGrowingWrong : ChangeSpec := { name := "fnExactIsGrowing", fn := fun _ => fun
  | [d1, d2] => { results := [.lit (.bool false)], args := [d1, d2] }
  | _ => none }
def FnExactIsGrowingWrongFalsely : Prop := fnExactIsGrowingRow.holds Try.pinned (OpenSpec.ofChange fnExactIsGrowingWrong)

/-- 'laws.FnExactExchangeAt': WHATEVER THE INPUT: true; the input reads as it did. -/
def fnExactExchangeAtSpec : ChangeSpec := { name := "fnExactExchangeAt", fn := fun _ => fun
  | [d1, d2, d3] => { results := [.lit (.bool true)], args := [d1, d2, d3] }
  | _ => none }
def fnExactExchangeAtRow : OpenClaim := { program := "ytlealjliaifkcaf", sum := "bf7bfab7db7589207cc951c7b24475f90ab7360974c1f4e0f1bfc6ca121e809c", func := "loop.example/g01391/laws.FnExactExchangeAt", spec := "fnExactExchangeAt", recurses := true, apart := false }
def FnExactExchangeAtSaid : Prop := fnExactExchangeAtRow.holds Try.pinned (OpenSpec.ofChange fnExactExchangeAtSpec)

/-- ITS FALSE NEIGHBOUR: 'it returns false'. Refute it at one input. -/
def fnExactExchangeAtWrong : ChangeSpec := { name := "fnExactExchangeAt", fn := fun _ => fun
  | [d1, d2, d3] => { results := [.lit (.bool false)], args := [d1, d2, d3] }
  | _ => none }
def FnExactExchangeAtWrongFalsely : Prop := fnExactExchangeAtRow.holds Try.pinned (OpenSpec.ofChange fnExactExchangeAtWrong)

/-- 'laws.FnExactLabelsOf': WHATEVER THE INPUT: true; the input reads as it did. -/
def fnExactLabelsOfSpec : ChangeSpec := { name := "fnExactLabelsOf", fn := fun _ => fun
  | [d1, d2] => { results := [.lit (.bool true)], args := [d1, d2] }
  | _ => none }
def fnExactLabelsOfRow : OpenClaim := { program := "ytlealjliaifkcaf", sum := "bf7bfab7db7589207cc951c7b24475f90ab7360974c1f4e0f1bfc6ca121e809c", func := "loop.example/g01391/laws.FnExactLabelsOf", spec := "fnExactLabelsOf", recurses := true, apart := false }
def FnExactLabelsOfSaid : Prop := fnExactLabelsOfRow.holds Try.pinned (OpenSpec.ofChange fnExactLabelsOfSpec)

/-- ITS FALSE NEIGHBOUR: 'it returns false'. Refute it at one input. -/
def fnExactLabelsOfWrong : ChangeSpec := { name := "fnExactLabelsOf", fn := fun _ => fun
  | [d1, d2] => { results := [.lit (.bool false)], args := [d1, d2] }
  | _ => none }
def FnExactLabelsOfWrongFalsely : Prop := fnExactLabelsOfRow.holds Try.pinned (OpenSpec.ofChange fnExactLabelsOfWrong)

/-- 'laws.FnExactBreaksOf': WHATEVER THE INPUT: true; the input reads as it did. -/
def fnExactBreaksOfSpec : ChangeSpec := { name := "fnExactBreaksOf", fn := fun _ => fun
  | [d1, d2] => { results := [.lit (.bool true)], args := [d1, d2] }
  | _ => none }
def fnExactBreaksOfRow : OpenClaim := { program := "ytlealjliaifkcaf", sum := "bf7bfab7db7589207cc951c7b24475f90ab7360974c1f4e0f1bfc6ca121e809c", func := "loop.example/g01391/laws.FnExactBreaksOf", spec := "fnExactBreaksOf", recurses := true, apart := false }
def FnExactBreaksOfSaid : Prop := fnExactBreaksOfRow.holds Try.pinned (OpenSpec.ofChange fnExactBreaksOfSpec)

/-- ITS FALSE NEIGHBOUR: 'it returns false'. Refute it at one input. -/
def fnExactBreaksOfWrong : ChangeSpec := { name := "fnExactBreaksOf", fn := fun _ => fun
  | [d1, d2] => { results := [.lit (.bool false)], args := [d1, d2] }
  | _ => none }
def FnExactBreaksOfWrongFalsely : Prop := fnExactBreaksOfRow.holds Try.pinned (OpenSpec.ofChange fnExactBreaksOfWrong)

/-- 'laws.FnExactFreePlaces': WHATEVER THE INPUT: true; the input reads as it did. -/
def fnExactFreePlacesSpec : ChangeSpec := { name := "fnExactFreePlaces", fn := fun _ => fun
  | [d1, d2] => { results := [.lit (.bool true)], args := [d1, d2] }
  | _ => none }
def fnExactFreePlacesRow : OpenClaim := { program := "ytlealjliaifkcaf", sum := "bf7bfab7db7589207cc951c7b24475f90ab7360974c1f4e0f1bfc6ca121e809c", func := "loop.example/g01391/laws.FnExactFreePlaces", spec := "fnExactFreePlaces", recurses := true, apart := false }
def FnExactFreePlacesSaid : Prop := fnExactFreePlacesRow.holds Try.pinned (OpenSpec.ofChange fnExactFreePlacesSpec)

/-- ITS FALSE NEIGHBOUR: 'it returns false'. Refute it at one input. -/
def fnExactFreePlacesWrong : ChangeSpec := { name := "fnExactFreePlaces", fn := fun _ => fun
  | [d1, d2] => { results := [.lit (.bool false)], args := [d1, d2] }
  | _ => none }
def FnExactFreePlacesWrongFalsely : Prop := fnExactFreePlacesRow.holds Try.pinned (OpenSpec.ofChange fnExactFreePlacesWrong)

/-- 'laws.FnExactNextGrowing': WHATEVER THE INPUT: true; the input reads as it did. -/
def fnExactNextGrowingSpec : ChangeSpec := { name := "fnExactNextGrowing", fn := fun _ => fun
  | [d1, d2] => { results := [.lit (.bool true)], args := [d1, d2] }
  | _ => none }
def fnExactNextGrowingRow : OpenClaim := { program := "ytlealjliaifkcaf", sum := "bf7bfab7db7589207cc951c7b24475f90ab7360974c1f4e0f1bfc6ca121e809c", func := "loop.example/g01391/laws.FnExactNextGrowing", spec := "fnExactNextGrowing", recurses := true, apart := false }
def FnExactNextGrowingSaid : Prop := fnExactNextGrowingRow.holds Try.pinned (OpenSpec.ofChange fnExactNextGrowingSpec)

/-- ITS FALSE NEIGHBOUR: 'it returns false'. Refute it at one input. -/
def fnExactNextGrowingWrong : ChangeSpec := { name := "fnExactNextGrowing", fn := fun _ => fun
  | [d1, d2] => { results := [.lit (.bool false)], args := [d1, d2] }
  | _ => none }
def FnExactNextGrowingWrongFalsely : Prop := fnExactNextGrowingRow.holds Try.pinned (OpenSpec.ofChange fnExactNextGrowingWrong)

/- THE SECOND FORM. 'bulk': how many values and letters a reading holds, each counted each time it is reached (what is shared counts as often as it is met; a slice's spare places count too). A statement '..UptoSaid' is the law's where the arguments, and the package variables that the reading takes, are together of bulk at most 1048576: NARROWER than '..Said'. Prove '..Said' where nothing that the law and all that it calls make is longer than what came in: it says more and counts as full. Else prove '..UptoSaid'. A law counts once. -/
mutual
def uptoBulk {H : Type} : DataW H → Nat
  | .lit (.string bytes) => bytes.length + 1
  | .lit _ => 1
  | .nil => 1
  | .ptr d => uptoBulk d + 1
  | .slice elems spare => uptoBulkAll elems + uptoBulkAll spare + 1
  | .agg parts => uptoBulkAll parts + 1
  | .iface _ d => uptoBulk d + 1
  | .map entries => uptoBulkEntries entries + 1
  | .held _ => 1
def uptoBulkAll {H : Type} : List (DataW H) → Nat
  | [] => 0
  | d :: r => uptoBulk d + uptoBulkAll r
def uptoBulkEntries {H : Type} : List (Lit × DataW H) → Nat
  | [] => 0
  | x :: r => uptoBulkEntry x + uptoBulkEntries r
def uptoBulkEntry {H : Type} : Lit × DataW H → Nat
  | (.string bytes, d) => bytes.length + uptoBulk d + 1
  | (_, d) => uptoBulk d + 1
 end
def uptoSmall : (H : Type) → List (DataW H) → Bool := fun _ ds => decide (uptoBulkAll ds ≤ 1048576)
def OpenSpec.upto (s : _root_.Go.ChangeSpec) : _root_.Go.OpenSpec := { _root_.Go.OpenSpec.ofChange s with cond := some uptoSmall }

/-- 'laws.FnExactIsGrowing', WHERE WHAT IT READS IS OF BULK AT MOST 1048576: true; the input reads as it did. -/
def fnExactIsGrowingUptoRow : OpenClaim := { program := "ytlealjliaifkcaf", sum := "bf7bfab7db7589207cc951c7b24475f90ab7360974c1f4e0f1bfc6ca121e809c", func := "loop.example/g01391/laws.FnExactIsGrowing", spec := "fnExactIsGrowing", recurses := true, apart := false, narrowed := true }
def FnExactIsGrowingUptoSaid : Prop := fnExactIsGrowingUptoRow.holds Try.pinned (OpenSpec.upto fnExactIsGrowingSpec)

/-- 'laws.FnExactExchangeAt', WHERE WHAT IT READS IS OF BULK AT MOST 1048576: true; the input reads as it did. -/
def fnExactExchangeAtUptoRow : OpenClaim := { program := "ytlealjliaifkcaf", sum := "bf7bfab7db7589207cc951c7b24475f90ab7360974c1f4e0f1bfc6ca121e809c", func := "loop.example/g01391/laws.FnExactExchangeAt", spec := "fnExactExchangeAt", recurses := true, apart := false, narrowed := true }
def FnExactExchangeAtUptoSaid : Prop := fnExactExchangeAtUptoRow.holds Try.pinned (OpenSpec.upto fnExactExchangeAtSpec)

/-- 'laws.FnExactLabelsOf', WHERE WHAT IT READS IS OF BULK AT MOST 1048576: true; the input reads as it did. -/
def fnExactLabelsOfUptoRow : OpenClaim := { program := "ytlealjliaifkcaf", sum := "bf7bfab7db7589207cc951c7b24475f90ab7360974c1f4e0f1bfc6ca121e809c", func := "loop.example/g01391/laws.FnExactLabelsOf", spec := "fnExactLabelsOf", recurses := true, apart := false, narrowed := true }
def FnExactLabelsOfUptoSaid : Prop := fnExactLabelsOfUptoRow.holds Try.pinned (OpenSpec.upto fnExactLabelsOfSpec)

/-- 'laws.FnExactBreaksOf', WHERE WHAT IT READS IS OF BULK AT MOST 1048576: true; the input reads as it did. -/
def fnExactBreaksOfUptoRow : OpenClaim := { program := "ytlealjliaifkcaf", sum := "bf7bfab7db7589207cc951c7b24475f90ab7360974c1f4e0f1bfc6ca121e809c", func := "loop.example/g01391/laws.FnExactBreaksOf", spec := "fnExactBreaksOf", recurses := true, apart := false, narrowed := true }
def FnExactBreaksOfUptoSaid : Prop := fnExactBreaksOfUptoRow.holds Try.pinned (OpenSpec.upto fnExactBreaksOfSpec)

/-- 'laws.FnExactFreePlaces', WHERE WHAT IT READS IS OF BULK AT MOST 1048576: true; the input reads as it did. -/
def fnExactFreePlacesUptoRow : OpenClaim := { program := "ytlealjliaifkcaf", sum := "bf7bfab7db7589207cc951c7b24475f90ab7360974c1f4e0f1bfc6ca121e809c", func := "loop.example/g01391/laws.FnExactFreePlaces", spec := "fnExactFreePlaces", recurses := true, apart := false, narrowed := true }
def FnExactFreePlacesUptoSaid : Prop := fnExactFreePlacesUptoRow.holds Try.pinned (OpenSpec.upto fnExactFreePlacesSpec)

/-- 'laws.FnExactNextGrowing', WHERE WHAT IT READS IS OF BULK AT MOST 1048576: true; the input reads as it did. -/
def fnExactNextGrowingUptoRow : OpenClaim := { program := "ytlealjliaifkcaf", sum := "bf7bfab7db7589207cc951c7b24475f90ab7360974c1f4e0f1bfc6ca121e809c", func := "loop.example/g01391/laws.FnExactNextGrowing", spec := "fnExactNextGrowing", recurses := true, apart := false, narrowed := true }
def FnExactNextGrowingUptoSaid : Prop := fnExactNextGrowingUptoRow.holds Try.pinned (OpenSpec.upto fnExactNextGrowingSpec)

end Rows
end Go.Proofs.Ytlealjliaifkcaf
