/-
  No cell of these rows narrows 'for every input' (looked for: loops, veiled, ifaces, maps, wideKeys, modest, calm, conditions, laid).
  DERIVED. THE GIVEN ROWS OF THIS SEAT. 6 by the template 'for every input the law returns true; each argument reads behind the call as it read before'; 0 by the template 'total and deterministic' (their statements: YtlealjliaifkcabTotals.lean).
  GIVEN WITH THE SEED: the statements are not yours to turn. If you find one false, say at which input.
  Laid BY PROGRAM, IN A SANDBOX (cutbox-rows.mjs): the forced cells as the released guide's own fill.sh prints them over the translation ea1b3ffcff011fa3… (all of the seat's roots in one cut). By AI agents, Wed Nov 11 2026. No macro, syntax, notation, axiom, sorry.
-/
import Derived.Test.YtlealjliaifkcabChecked
import GoSem.Claim
import GoSem.ClaimJoined
import GoSem.ClaimMapViews
import Derived.JoinedTies
import Derived.KernelRfl
namespace Go.Proofs.Ytlealjliaifkcab
/- THE CELL 'sum', in the pinned program and in every row, IS THE sha256 OF THE DUMP (.gsa) THAT YtlealjliaifkcabProg.lean LOADS. Nothing in Lean hashes anything: it is a label: what it is worth is what the hold of that sum in a sandbox is worth. -/
noncomputable def Try.pinned : Pinned := { name := "ytlealjliaifkcab", sum := "ea1b3ffcff011fa3d6f92e9e6a12e1f82dfa524916e167f9d9c245ad7cade998", checked := Try.checked }
namespace Rows
def none {H : Type} : Left H := { results := [], args := [] }

/-- 'laws.FnTop': WHATEVER THE INPUT: true; the input reads as it did. -/
def fnTopSpec : ChangeSpec := { name := "fnTop", fn := fun _ => fun
  | [d] => { results := [.lit (.bool true)], args := [d] }
  | _ => none }
def fnTopRow : OpenClaim := { program := "ytlealjliaifkcab", sum := "ea1b3ffcff011fa3d6f92e9e6a12e1f82dfa524916e167f9d9c245ad7cade998", func := "loop.example/g01391/laws.FnTop", spec := "fnTop", unfollowed := true, recurses := true, apart := false }
def FnTopSaid : Prop := fnTopRow.holds Try.pinned (OpenSpec.ofChange fnTopSpec)

/-- ITS FALSE NEIGHBOUR: 'it returns false'. Refute it at one input. -/
def fnTopWrong : ChangeSpec := { name := "fnTop", fn := fun _ => fun
  | [d] => { results := [.lit (.bool false)], args := [d] }
  | _ => none }
def FnTopWrongFalsely : Prop := fnTopRow.holds Try.pinned (OpenSpec.ofChange fnTopWrong)

/-- 'laws.FnExactCountGrowing': WHATEVER THE INPUT: true; the input reads as it did. -/
def fnExactCountGrowingSpec : ChangeSpec := { name := "fnExactCountGrowing", fn := fun _ => fun
  | [d] => { results := [.lit (.bool true)], args := [d] }
  | _ => none }
def fnExactCountGrowingRow : OpenClaim := { program := "ytlealjliaifkcab", sum := "ea1b3ffcff011fa3d6f92e9e6a12e1f82dfa524916e167f9d9c245ad7cade998", func := "loop.example/g01391/laws.FnExactCountGrowing", spec := "fnExactCountGrowing", apart := false }
def FnExactCountGrowingSaid : Prop := fnExactCountGrowingRow.holds Try.pinned (OpenSpec.ofChange fnExactCountGrowingSpec)

/-- ITS FALSE NEIGHBOUR: 'it returns false'. Refute it at one input. -/
def fnExactCountGrowingWrong : ChangeSpec := { name := "fnExactCountGrowing", fn := fun _ => fun
  | [d] => { results := [.lit (.bool false)], args := [d] }
  | _ => none }
def FnExactCountGrowingWrongFalsely : Prop := fnExactCountGrowingRow.holds Try.pinned (OpenSpec.ofChange fnExactCountGrowingWrong)

/-- 'laws.FnExactEvenColumns': WHATEVER THE INPUT: true; the input reads as it did. -/
def fnExactEvenColumnsSpec : ChangeSpec := { name := "fnExactEvenColumns", fn := fun _ => fun
  | [d] => { results := [.lit (.bool true)], args := [d] }
  | _ => none }
def fnExactEvenColumnsRow : OpenClaim := { program := "ytlealjliaifkcab", sum := "ea1b3ffcff011fa3d6f92e9e6a12e1f82dfa524916e167f9d9c245ad7cade998", func := "loop.example/g01391/laws.FnExactEvenColumns", spec := "fnExactEvenColumns", apart := false }
def FnExactEvenColumnsSaid : Prop := fnExactEvenColumnsRow.holds Try.pinned (OpenSpec.ofChange fnExactEvenColumnsSpec)

/-- ITS FALSE NEIGHBOUR: 'it returns false'. Refute it at one input. -/
def fnExactEvenColumnsWrong : ChangeSpec := { name := "fnExactEvenColumns", fn := fun _ => fun
  | [d] => { results := [.lit (.bool false)], args := [d] }
  | _ => none }
def FnExactEvenColumnsWrongFalsely : Prop := fnExactEvenColumnsRow.holds Try.pinned (OpenSpec.ofChange fnExactEvenColumnsWrong)

/-- 'laws.FnExactNewDesk': WHATEVER THE INPUT: true; the input reads as it did. -/
def fnExactNewDeskSpec : ChangeSpec := { name := "fnExactNewDesk", fn := fun _ => fun
  | [] => { results := [.lit (.bool true)], args := [] }
  | _ => none }
def fnExactNewDeskRow : OpenClaim := { program := "ytlealjliaifkcab", sum := "ea1b3ffcff011fa3d6f92e9e6a12e1f82dfa524916e167f9d9c245ad7cade998", func := "loop.example/g01391/laws.FnExactNewDesk", spec := "fnExactNewDesk", apart := false }
def FnExactNewDeskSaid : Prop := fnExactNewDeskRow.holds Try.pinned (OpenSpec.ofChange fnExactNewDeskSpec)

/-- ITS FALSE NEIGHBOUR: 'it returns false'. Refute it at one input. -/
def fnExactNewDeskWrong : ChangeSpec := { name := "fnExactNewDesk", fn := fun _ => fun
  | [] => { results := [.lit (.bool false)], args := [] }
  | _ => none }
def FnExactNewDeskWrongFalsely : Prop := fnExactNewDeskRow.holds Try.pinned (OpenSpec.ofChange fnExactNewDeskWrong)

/-- 'laws.FnExactDoAgree': WHATEVER THE INPUT: true; the input reads as it did. -/
def fnExactDoAgreeSpec : ChangeSpec := { name := "fnExactDoAgree", fn := fun _ => fun
  | [d1, d2, d3] => { results := [.lit (.bool true)], args := [d1, d2, d3] }
  | _ => none }
def fnExactDoAgreeRow : OpenClaim := { program := "ytlealjliaifkcab", sum := "ea1b3ffcff011fa3d6f92e9e6a12e1f82dfa524916e167f9d9c245ad7cade998", func := "loop.example/g01391/laws.FnExactDoAgree", spec := "fnExactDoAgree", apart := false }
def FnExactDoAgreeSaid : Prop := fnExactDoAgreeRow.holds Try.pinned (OpenSpec.ofChange fnExactDoAgreeSpec)

/-- ITS FALSE NEIGHBOUR: 'it returns false'. Refute it at one input. -/
def fnExactDoAgreeWrong : ChangeSpec := { name := "fnExactDoAgree", fn := fun _ => fun
  | [d1, d2, d3] => { results := [.lit (.bool false)], args := [d1, d2, d3] }
  | _ => none }
def FnExactDoAgreeWrongFalsely : Prop := fnExactDoAgreeRow.holds Try.pinned (OpenSpec.ofChange fnExactDoAgreeWrong)

/-- 'laws.FnExactAncestorOf': WHATEVER THE INPUT: true; the input reads as it did. -/
def fnExactAncestorOfSpec : ChangeSpec := { name := "fnExactAncestorOf", fn := fun _ => fun
  | [d1, d2, d3] => { results := [.lit (.bool true)], args := [d1, d2, d3] }
  | _ => none }
def fnExactAncestorOfRow : OpenClaim := { program := "ytlealjliaifkcab", sum := "ea1b3ffcff011fa3d6f92e9e6a12e1f82dfa524916e167f9d9c245ad7cade998", func := "loop.example/g01391/laws.FnExactAncestorOf", spec := "fnExactAncestorOf", apart := false }
def FnExactAncestorOfSaid : Prop := fnExactAncestorOfRow.holds Try.pinned (OpenSpec.ofChange fnExactAncestorOfSpec)

/-- ITS FALSE NEIGHBOUR: 'it returns false'. Refute it at one input. -/
def fnExactAncestorOfWrong : ChangeSpec := { name := "fnExactAncestorOf", fn := fun _ => fun
  | [d1, d2, d3] => { results := [.lit (.bool false)], args := [d1, d2, d3] }
  | _ => none }
def FnExactAncestorOfWrongFalsely : Prop := fnExactAncestorOfRow.holds Try.pinned (OpenSpec.ofChange fnExactAncestorOfWrong)

/- THE SECOND FORM. 'bulk': how many values and letters a reading holds, each counted each time it is reached (what is shared counts as often as it is met; a slice's spare places count too). A statement '..UptoSaid' is the law's where the arguments, and the package variables that the reading takes, are together of bulk at most 1048576: NARROWER than '..Said'. Prove '..Said' where nothing that the law and all that it calls make is longer than what came in: it says more and counts as full. Else prove '..UptoSaid'. A law counts once. -/
mutual
def uptoBulk {H : Type} : DataW H → Nat
  | .lit (.string bytes) => bytes.length + 1
  | .lit _ => 1
  | .nil => 1
  | .ptr d => uptoBulk d + 1
  | .slice elems spare => uptoBulkAll elems + uptoBulkAll spare + 1
  | .agg parts => uptoBulkAll parts + 1
  | .iface _ d => uptoBulk d + 1
  | .map entries => uptoBulkEntries entries + 1
  | .held _ => 1
def uptoBulkAll {H : Type} : List (DataW H) → Nat
  | [] => 0
  | d :: r => uptoBulk d + uptoBulkAll r
def uptoBulkEntries {H : Type} : List (Lit × DataW H) → Nat
  | [] => 0
  | x :: r => uptoBulkEntry x + uptoBulkEntries r
def uptoBulkEntry {H : Type} : Lit × DataW H → Nat
  | (.string bytes, d) => bytes.length + uptoBulk d + 1
  | (_, d) => uptoBulk d + 1
 end
def uptoSmall : (H : Type) → List (DataW H) → Bool := fun _ ds => decide (uptoBulkAll ds ≤ 1048576)
def OpenSpec.upto (s : _root_.Go.ChangeSpec) : _root_.Go.OpenSpec := { _root_.Go.OpenSpec.ofChange s with cond := some uptoSmall }

/-- 'laws.FnTop', WHERE WHAT IT READS IS OF BULK AT MOST 1048576: true; the input reads as it did. -/
def fnTopUptoRow : OpenClaim := { program := "ytlealjliaifkcab", sum := "ea1b3ffcff011fa3d6f92e9e6a12e1f82dfa524916e167f9d9c245ad7cade998", func := "loop.example/g01391/laws.FnTop", spec := "fnTop", unfollowed := true, recurses := true, apart := false, narrowed := true }
def FnTopUptoSaid : Prop := fnTopUptoRow.holds Try.pinned (OpenSpec.upto fnTopSpec)

/-- 'laws.FnExactCountGrowing', WHERE WHAT IT READS IS OF BULK AT MOST 1048576: true; the input reads as it did. -/
def fnExactCountGrowingUptoRow : OpenClaim := { program := "ytlealjliaifkcab", sum := "ea1b3ffcff011fa3d6f92e9e6a12e1f82dfa524916e167f9d9c245ad7cade998", func := "loop.example/g01391/laws.FnExactCountGrowing", spec := "fnExactCountGrowing", apart := false, narrowed := true }
def FnExactCountGrowingUptoSaid : Prop := fnExactCountGrowingUptoRow.holds Try.pinned (OpenSpec.upto fnExactCountGrowingSpec)

/-- 'laws.FnExactEvenColumns', WHERE WHAT IT READS IS OF BULK AT MOST 1048576: true; the input reads as it did. -/
def fnExactEvenColumnsUptoRow : OpenClaim := { program := "ytlealjliaifkcab", sum := "ea1b3ffcff011fa3d6f92e9e6a12e1f82dfa524916e167f9d9c245ad7cade998", func := "loop.example/g01391/laws.FnExactEvenColumns", spec := "fnExactEvenColumns", apart := false, narrowed := true }
def FnExactEvenColumnsUptoSaid : Prop := fnExactEvenColumnsUptoRow.holds Try.pinned (OpenSpec.upto fnExactEvenColumnsSpec)

/-- 'laws.FnExactNewDesk', WHERE WHAT IT READS IS OF BULK AT MOST 1048576: true; the input reads as it did. -/
def fnExactNewDeskUptoRow : OpenClaim := { program := "ytlealjliaifkcab", sum := "ea1b3ffcff011fa3d6f92e9e6a12e1f82dfa524916e167f9d9c245ad7cade998", func := "loop.example/g01391/laws.FnExactNewDesk", spec := "fnExactNewDesk", apart := false, narrowed := true }
def FnExactNewDeskUptoSaid : Prop := fnExactNewDeskUptoRow.holds Try.pinned (OpenSpec.upto fnExactNewDeskSpec)

/-- 'laws.FnExactDoAgree', WHERE WHAT IT READS IS OF BULK AT MOST 1048576: true; the input reads as it did. -/
def fnExactDoAgreeUptoRow : OpenClaim := { program := "ytlealjliaifkcab", sum := "ea1b3ffcff011fa3d6f92e9e6a12e1f82dfa524916e167f9d9c245ad7cade998", func := "loop.example/g01391/laws.FnExactDoAgree", spec := "fnExactDoAgree", apart := false, narrowed := true }
def FnExactDoAgreeUptoSaid : Prop := fnExactDoAgreeUptoRow.holds Try.pinned (OpenSpec.upto fnExactDoAgreeSpec)

/-- 'laws.FnExactAncestorOf', WHERE WHAT IT READS IS OF BULK AT MOST 1048576: true; the input reads as it did. -/
def fnExactAncestorOfUptoRow : OpenClaim := { program := "ytlealjliaifkcab", sum := "ea1b3ffcff011fa3d6f92e9e6a12e1f82dfa524916e167f9d9c245ad7cade998", func := "loop.example/g01391/laws.FnExactAncestorOf", spec := "fnExactAncestorOf", apart := false, narrowed := true }
def FnExactAncestorOfUptoSaid : Prop := fnExactAncestorOfUptoRow.holds Try.pinned (OpenSpec.upto fnExactAncestorOfSpec)

end Rows
end Go.Proofs.Ytlealjliaifkcab
