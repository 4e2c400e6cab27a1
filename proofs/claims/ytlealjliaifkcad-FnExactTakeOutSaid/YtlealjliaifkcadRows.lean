/-
  No cell of these rows narrows 'for every input' (looked for: loops, veiled, ifaces, maps, wideKeys, modest, calm, conditions, laid).
  DERIVED. THE GIVEN ROWS OF THIS SEAT. 6 by the template 'for every input the law returns true; each argument reads behind the call as it read before'; 0 by the template 'total and deterministic' (their statements: YtlealjliaifkcadTotals.lean).
  GIVEN WITH THE SEED: the statements are not yours to turn. If you find one false, say at which input.
  Laid BY PROGRAM, IN A SANDBOX (cutbox-rows.mjs): the forced cells as the released guide's own fill.sh prints them over the translation a1fa8663eab9cb3f… (all of the seat's roots in one cut). By AI agents, Wed Nov 11 2026. No macro, syntax, notation, axiom, sorry.
-/
import Derived.Test.YtlealjliaifkcadChecked
import GoSem.Claim
import GoSem.ClaimJoined
import GoSem.ClaimMapViews
import Derived.JoinedTies
import Derived.KernelRfl
namespace Go.Proofs.Ytlealjliaifkcad
/- THE CELL 'sum', in the pinned program and in every row, IS THE sha256 OF THE DUMP (.gsa) THAT YtlealjliaifkcadProg.lean LOADS. Nothing in Lean hashes anything: it is a label: what it is worth is what the hold of that sum in a sandbox is worth. -/
noncomputable def Try.pinned : Pinned := { name := "ytlealjliaifkcad", sum := "a1fa8663eab9cb3f34b28e292c97f928c8e6bd8a06428d73104be8483dccbcfa", checked := Try.checked }
namespace Rows
def none {H : Type} : Left H := { results := [], args := [] }

/-- 'laws.FnExactLightSteps': WHATEVER THE INPUT: true; the input reads as it did. -/
def fnExactLightStepsSpec : ChangeSpec := { name := "fnExactLightSteps", fn := fun _ => fun
  | [d1, d2] => { results := [.lit (.bool true)], args := [d1, d2] }
  | _ => none }
def fnExactLightStepsRow : OpenClaim := { program := "ytlealjliaifkcad", sum := "a1fa8663eab9cb3f34b28e292c97f928c8e6bd8a06428d73104be8483dccbcfa", func := "loop.example/g01391/laws.FnExactLightSteps", spec := "fnExactLightSteps", apart := false }
def FnExactLightStepsSaid : Prop := fnExactLightStepsRow.holds Try.pinned (OpenSpec.ofChange fnExactLightStepsSpec)

/-- ITS FALSE NEIGHBOUR: 'it returns false'. Refute it at one input. -/
def fnExactLightStepsWrong : ChangeSpec := { name := "fnExactLightSteps", fn := fun _ => fun
  | [d1, d2] => { results := [.lit (.bool false)], args := [d1, d2] }
  | _ => none }
def FnExactLightStepsWrongFalsely : Prop := fnExactLightStepsRow.holds Try.pinned (OpenSpec.ofChange fnExactLightStepsWrong)

/-- 'laws.FnExactTidyWidth': WHATEVER THE INPUT: true; the input reads as it did. -/
def fnExactTidyWidthSpec : ChangeSpec := { name := "fnExactTidyWidth", fn := fun _ => fun
  | [d] => { results := [.lit (.bool true)], args := [d] }
  | _ => none }
def fnExactTidyWidthRow : OpenClaim := { program := "ytlealjliaifkcad", sum := "a1fa8663eab9cb3f34b28e292c97f928c8e6bd8a06428d73104be8483dccbcfa", func := "loop.example/g01391/laws.FnExactTidyWidth", spec := "fnExactTidyWidth", recurses := true, apart := false }
def FnExactTidyWidthSaid : Prop := fnExactTidyWidthRow.holds Try.pinned (OpenSpec.ofChange fnExactTidyWidthSpec)

/-- ITS FALSE NEIGHBOUR: 'it returns false'. Refute it at one input. -/
def fnExactTidyWidthWrong : ChangeSpec := { name := "fnExactTidyWidth", fn := fun _ => fun
  | [d] => { results := [.lit (.bool false)], args := [d] }
  | _ => none }
def FnExactTidyWidthWrongFalsely : Prop := fnExactTidyWidthRow.holds Try.pinned (OpenSpec.ofChange fnExactTidyWidthWrong)

/-- 'laws.FnExactTakeOut': WHATEVER THE INPUT: true; the input reads as it did. -/
def fnExactTakeOutSpec : ChangeSpec := { name := "fnExactTakeOut", fn := fun _ => fun
  | [d1, d2] => { results := [.lit (.bool true)], args := [d1, d2] }
  | _ => none }
def fnExactTakeOutRow : OpenClaim := { program := "ytlealjliaifkcad", sum := "a1fa8663eab9cb3f34b28e292c97f928c8e6bd8a06428d73104be8483dccbcfa", func := "loop.example/g01391/laws.FnExactTakeOut", spec := "fnExactTakeOut", apart := false }
def FnExactTakeOutSaid : Prop := fnExactTakeOutRow.holds Try.pinned (OpenSpec.ofChange fnExactTakeOutSpec)

/-- ITS FALSE NEIGHBOUR: 'it returns false'. Refute it at one input. -/
def fnExactTakeOutWrong : ChangeSpec := { name := "fnExactTakeOut", fn := fun _ => fun
  | [d1, d2] => { results := [.lit (.bool false)], args := [d1, d2] }
  | _ => none }
def FnExactTakeOutWrongFalsely : Prop := fnExactTakeOutRow.holds Try.pinned (OpenSpec.ofChange fnExactTakeOutWrong)

/-- 'laws.FnExactTidyColumns': WHATEVER THE INPUT: true; the input reads as it did. -/
def fnExactTidyColumnsSpec : ChangeSpec := { name := "fnExactTidyColumns", fn := fun _ => fun
  | [d] => { results := [.lit (.bool true)], args := [d] }
  | _ => none }
def fnExactTidyColumnsRow : OpenClaim := { program := "ytlealjliaifkcad", sum := "a1fa8663eab9cb3f34b28e292c97f928c8e6bd8a06428d73104be8483dccbcfa", func := "loop.example/g01391/laws.FnExactTidyColumns", spec := "fnExactTidyColumns", recurses := true, apart := false }
def FnExactTidyColumnsSaid : Prop := fnExactTidyColumnsRow.holds Try.pinned (OpenSpec.ofChange fnExactTidyColumnsSpec)

/-- ITS FALSE NEIGHBOUR: 'it returns false'. Refute it at one input. -/
def fnExactTidyColumnsWrong : ChangeSpec := { name := "fnExactTidyColumns", fn := fun _ => fun
  | [d] => { results := [.lit (.bool false)], args := [d] }
  | _ => none }
def FnExactTidyColumnsWrongFalsely : Prop := fnExactTidyColumnsRow.holds Try.pinned (OpenSpec.ofChange fnExactTidyColumnsWrong)

/-- 'laws.FnExactPutIn': WHATEVER THE INPUT: true; the input reads as it did. -/
def fnExactPutInSpec : ChangeSpec := { name := "fnExactPutIn", fn := fun _ => fun
  | [d1, d2, d3, d4] => { results := [.lit (.bool true)], args := [d1, d2, d3, d4] }
  | _ => none }
def fnExactPutInRow : OpenClaim := { program := "ytlealjliaifkcad", sum := "a1fa8663eab9cb3f34b28e292c97f928c8e6bd8a06428d73104be8483dccbcfa", func := "loop.example/g01391/laws.FnExactPutIn", spec := "fnExactPutIn", inPlace := ["slices.overlaps[int64]"], apart := false }
def FnExactPutInSaid : Prop := fnExactPutInRow.holds Try.pinned (OpenSpec.ofChange fnExactPutInSpec)

/-- ITS FALSE NEIGHBOUR: 'it returns false'. Refute it at one input. -/
def fnExactPutInWrong : ChangeSpec := { name := "fnExactPutIn", fn := fun _ => fun
  | [d1, d2, d3, d4] => { results := [.lit (.bool false)], args := [d1, d2, d3, d4] }
  | _ => none }
def FnExactPutInWrongFalsely : Prop := fnExactPutInRow.holds Try.pinned (OpenSpec.ofChange fnExactPutInWrong)

/-- 'laws.FnExactCommonPairs': WHATEVER THE INPUT: true; the input reads as it did. -/
def fnExactCommonPairsSpec : ChangeSpec := { name := "fnExactCommonPairs", fn := fun _ => fun
  | [d1, d2] => { results := [.lit (.bool true)], args := [d1, d2] }
  | _ => none }
def fnExactCommonPairsRow : OpenClaim := { program := "ytlealjliaifkcad", sum := "a1fa8663eab9cb3f34b28e292c97f928c8e6bd8a06428d73104be8483dccbcfa", func := "loop.example/g01391/laws.FnExactCommonPairs", spec := "fnExactCommonPairs", recurses := true, apart := false }
def FnExactCommonPairsSaid : Prop := fnExactCommonPairsRow.holds Try.pinned (OpenSpec.ofChange fnExactCommonPairsSpec)

/-- ITS FALSE NEIGHBOUR: 'it returns false'. Refute it at one input. -/
def fnExactCommonPairsWrong : ChangeSpec := { name := "fnExactCommonPairs", fn := fun _ => fun
  | [d1, d2] => { results := [.lit (.bool false)], args := [d1, d2] }
  | _ => none }
def FnExactCommonPairsWrongFalsely : Prop := fnExactCommonPairsRow.holds Try.pinned (OpenSpec.ofChange fnExactCommonPairsWrong)

/- THE SECOND FORM. 'bulk': how many values and letters a reading holds, each counted each time it is reached (what is shared counts as often as it is met; a slice's spare places count too). A statement '..UptoSaid' is the law's where the arguments, and the package variables that the reading takes, are together of bulk at most 1048576: NARROWER than '..Said'. Prove '..Said' where nothing that the law and all that it calls make is longer than what came in: it says more and counts as full. Else prove '..UptoSaid'. A law counts once. -/
mutual
def uptoBulk {H : Type} : DataW H → Nat
  | .lit (.string bytes) => bytes.length + 1
  | .lit _ => 1
  | .nil => 1
  | .ptr d => uptoBulk d + 1
  | .slice elems spare => uptoBulkAll elems + uptoBulkAll spare + 1
  | .agg parts => uptoBulkAll parts + 1
  | .iface _ d => uptoBulk d + 1
  | .map entries => uptoBulkEntries entries + 1
  | .held _ => 1
def uptoBulkAll {H : Type} : List (DataW H) → Nat
  | [] => 0
  | d :: r => uptoBulk d + uptoBulkAll r
def uptoBulkEntries {H : Type} : List (Lit × DataW H) → Nat
  | [] => 0
  | x :: r => uptoBulkEntry x + uptoBulkEntries r
def uptoBulkEntry {H : Type} : Lit × DataW H → Nat
  | (.string bytes, d) => bytes.length + uptoBulk d + 1
  | (_, d) => uptoBulk d + 1
 end
def uptoSmall : (H : Type) → List (DataW H) → Bool := fun _ ds => decide (uptoBulkAll ds ≤ 1048576)
def OpenSpec.upto (s : _root_.Go.ChangeSpec) : _root_.Go.OpenSpec := { _root_.Go.OpenSpec.ofChange s with cond := some uptoSmall }

/-- 'laws.FnExactLightSteps', WHERE WHAT IT READS IS OF BULK AT MOST 1048576: true; the input reads as it did. -/
def fnExactLightStepsUptoRow : OpenClaim := { program := "ytlealjliaifkcad", sum := "a1fa8663eab9cb3f34b28e292c97f928c8e6bd8a06428d73104be8483dccbcfa", func := "loop.example/g01391/laws.FnExactLightSteps", spec := "fnExactLightSteps", apart := false, narrowed := true }
def FnExactLightStepsUptoSaid : Prop := fnExactLightStepsUptoRow.holds Try.pinned (OpenSpec.upto fnExactLightStepsSpec)

/-- 'laws.FnExactTidyWidth', WHERE WHAT IT READS IS OF BULK AT MOST 1048576: true; the input reads as it did. -/
def fnExactTidyWidthUptoRow : OpenClaim := { program := "ytlealjliaifkcad", sum := "a1fa8663eab9cb3f34b28e292c97f928c8e6bd8a06428d73104be8483dccbcfa", func := "loop.example/g01391/laws.FnExactTidyWidth", spec := "fnExactTidyWidth", recurses := true, apart := false, narrowed := true }
def FnExactTidyWidthUptoSaid : Prop := fnExactTidyWidthUptoRow.holds Try.pinned (OpenSpec.upto fnExactTidyWidthSpec)

/-- 'laws.FnExactTakeOut', WHERE WHAT IT READS IS OF BULK AT MOST 1048576: true; the input reads as it did. -/
def fnExactTakeOutUptoRow : OpenClaim := { program := "ytlealjliaifkcad", sum := "a1fa8663eab9cb3f34b28e292c97f928c8e6bd8a06428d73104be8483dccbcfa", func := "loop.example/g01391/laws.FnExactTakeOut", spec := "fnExactTakeOut", apart := false, narrowed := true }
def FnExactTakeOutUptoSaid : Prop := fnExactTakeOutUptoRow.holds Try.pinned (OpenSpec.upto fnExactTakeOutSpec)

/-- 'laws.FnExactTidyColumns', WHERE WHAT IT READS IS OF BULK AT MOST 1048576: true; the input reads as it did. -/
def fnExactTidyColumnsUptoRow : OpenClaim := { program := "ytlealjliaifkcad", sum := "a1fa8663eab9cb3f34b28e292c97f928c8e6bd8a06428d73104be8483dccbcfa", func := "loop.example/g01391/laws.FnExactTidyColumns", spec := "fnExactTidyColumns", recurses := true, apart := false, narrowed := true }
def FnExactTidyColumnsUptoSaid : Prop := fnExactTidyColumnsUptoRow.holds Try.pinned (OpenSpec.upto fnExactTidyColumnsSpec)

/-- 'laws.FnExactPutIn', WHERE WHAT IT READS IS OF BULK AT MOST 1048576: true; the input reads as it did. -/
def fnExactPutInUptoRow : OpenClaim := { program := "ytlealjliaifkcad", sum := "a1fa8663eab9cb3f34b28e292c97f928c8e6bd8a06428d73104be8483dccbcfa", func := "loop.example/g01391/laws.FnExactPutIn", spec := "fnExactPutIn", inPlace := ["slices.overlaps[int64]"], apart := false, narrowed := true }
def FnExactPutInUptoSaid : Prop := fnExactPutInUptoRow.holds Try.pinned (OpenSpec.upto fnExactPutInSpec)

/-- 'laws.FnExactCommonPairs', WHERE WHAT IT READS IS OF BULK AT MOST 1048576: true; the input reads as it did. -/
def fnExactCommonPairsUptoRow : OpenClaim := { program := "ytlealjliaifkcad", sum := "a1fa8663eab9cb3f34b28e292c97f928c8e6bd8a06428d73104be8483dccbcfa", func := "loop.example/g01391/laws.FnExactCommonPairs", spec := "fnExactCommonPairs", recurses := true, apart := false, narrowed := true }
def FnExactCommonPairsUptoSaid : Prop := fnExactCommonPairsUptoRow.holds Try.pinned (OpenSpec.upto fnExactCommonPairsSpec)

end Rows
end Go.Proofs.Ytlealjliaifkcad
