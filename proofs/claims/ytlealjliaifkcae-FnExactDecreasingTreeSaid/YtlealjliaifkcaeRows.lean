/-
  No cell of these rows narrows 'for every input' (looked for: loops, veiled, ifaces, maps, wideKeys, modest, calm, conditions, laid).
  DERIVED. THE GIVEN ROWS OF THIS SEAT. 6 by the template 'for every input the law returns true; each argument reads behind the call as it read before'; 0 by the template 'total and deterministic' (their statements: YtlealjliaifkcaeTotals.lean).
  GIVEN WITH THE SEED: the statements are not yours to turn. If you find one false, say at which input.
  Laid BY PROGRAM, IN A SANDBOX (cutbox-rows.mjs): the forced cells as the released guide's own fill.sh prints them over the translation a86e0126bf3496c4… (all of the seat's roots in one cut). By AI agents, Wed Nov 11 2026. No macro, syntax, notation, axiom, sorry.
-/
import Derived.Test.YtlealjliaifkcaeChecked
import GoSem.Claim
import GoSem.ClaimJoined
import GoSem.ClaimMapViews
import Derived.JoinedTies
import Derived.KernelRfl
namespace Go.Proofs.Ytlealjliaifkcae
/- THE CELL 'sum', in the pinned program and in every row, IS THE sha256 OF THE DUMP (.gsa) THAT YtlealjliaifkcaeProg.lean LOADS. Nothing in Lean hashes anything: it is a label: what it is worth is what the hold of that sum in a sandbox is worth. -/
noncomputable def Try.pinned : Pinned := { name := "ytlealjliaifkcae", sum := "a86e0126bf3496c45ad36f162899848778372f5daaf06196c3be7d768b9059ca", checked := Try.checked }
namespace Rows
def none {H : Type} : Left H := { results := [], args := [] }

/-- 'laws.FnExactGrowingOfRank': WHATEVER THE INPUT: true; the input reads as it did. -/
def fnExactGrowingOfRankSpec : ChangeSpec := { name := "fnExactGrowingOfRank", fn := fun _ => fun
  | [d1, d2] => { results := [.lit (.bool true)], args := [d1, d2] }
  | _ => none }
def fnExactGrowingOfRankRow : OpenClaim := { program := "ytlealjliaifkcae", sum := "a86e0126bf3496c45ad36f162899848778372f5daaf06196c3be7d768b9059ca", func := "loop.example/g01391/laws.FnExactGrowingOfRank", spec := "fnExactGrowingOfRank", unfollowed := true, recurses := true, apart := false }
def FnExactGrowingOfRankSaid : Prop := fnExactGrowingOfRankRow.holds Try.pinned (OpenSpec.ofChange fnExactGrowingOfRankSpec)

/-- ITS FALSE NEIGHBOUR: 'it returns false'. Refute it at one input. -/
def fnExactGrowingOfRankWrong : ChangeSpec := { name := "fnExactGrowingOfRank", fn := fun _ => fun
  | [d1, d2] => { results := [.lit (.bool false)], args := [d1, d2] }
  | _ => none }
def FnExactGrowingOfRankWrongFalsely : Prop := fnExactGrowingOfRankRow.holds Try.pinned (OpenSpec.ofChange fnExactGrowingOfRankWrong)

/-- 'laws.FnInside': WHATEVER THE INPUT: true; the input reads as it did. -/
def fnInsideSpec : ChangeSpec := { name := "fnInside", fn := fun _ => fun
  | [d] => { results := [.lit (.bool true)], args := [d] }
  | _ => none }
def fnInsideRow : OpenClaim := { program := "ytlealjliaifkcae", sum := "a86e0126bf3496c45ad36f162899848778372f5daaf06196c3be7d768b9059ca", func := "loop.example/g01391/laws.FnInside", spec := "fnInside", unfollowed := true, recurses := true, apart := false }
def FnInsideSaid : Prop := fnInsideRow.holds Try.pinned (OpenSpec.ofChange fnInsideSpec)

/-- ITS FALSE NEIGHBOUR: 'it returns false'. Refute it at one input. -/
def fnInsideWrong : ChangeSpec := { name := "fnInside", fn := fun _ => fun
  | [d] => { results := [.lit (.bool false)], args := [d] }
  | _ => none }
def FnInsideWrongFalsely : Prop := fnInsideRow.holds Try.pinned (OpenSpec.ofChange fnInsideWrong)

/-- 'laws.FnExactDecreasingTree': WHATEVER THE INPUT: true; the input reads as it did. -/
def fnExactDecreasingTreeSpec : ChangeSpec := { name := "fnExactDecreasingTree", fn := fun _ => fun
  | [d] => { results := [.lit (.bool true)], args := [d] }
  | _ => none }
def fnExactDecreasingTreeRow : OpenClaim := { program := "ytlealjliaifkcae", sum := "a86e0126bf3496c45ad36f162899848778372f5daaf06196c3be7d768b9059ca", func := "loop.example/g01391/laws.FnExactDecreasingTree", spec := "fnExactDecreasingTree", recurses := true, apart := false }
def FnExactDecreasingTreeSaid : Prop := fnExactDecreasingTreeRow.holds Try.pinned (OpenSpec.ofChange fnExactDecreasingTreeSpec)

/-- ITS FALSE NEIGHBOUR: 'it returns false'. Refute it at one input. -/
def fnExactDecreasingTreeWrong : ChangeSpec := { name := "fnExactDecreasingTree", fn := fun _ => fun
  | [d] => { results := [.lit (.bool false)], args := [d] }
  | _ => none }
def FnExactDecreasingTreeWrongFalsely : Prop := fnExactDecreasingTreeRow.holds Try.pinned (OpenSpec.ofChange fnExactDecreasingTreeWrong)

/-- 'laws.FnHeavyPaths': WHATEVER THE INPUT: true; the input reads as it did. -/
def fnHeavyPathsSpec : ChangeSpec := { name := "fnHeavyPaths", fn := fun _ => fun
  | [d] => { results := [.lit (.bool true)], args := [d] }
  | _ => none }
def fnHeavyPathsRow : OpenClaim := { program := "ytlealjliaifkcae", sum := "a86e0126bf3496c45ad36f162899848778372f5daaf06196c3be7d768b9059ca", func := "loop.example/g01391/laws.FnHeavyPaths", spec := "fnHeavyPaths", apart := false }
def FnHeavyPathsSaid : Prop := fnHeavyPathsRow.holds Try.pinned (OpenSpec.ofChange fnHeavyPathsSpec)

/-- ITS FALSE NEIGHBOUR: 'it returns false'. Refute it at one input. -/
def fnHeavyPathsWrong : ChangeSpec := { name := "fnHeavyPaths", fn := fun _ => fun
  | [d] => { results := [.lit (.bool false)], args := [d] }
  | _ => none }
def FnHeavyPathsWrongFalsely : Prop := fnHeavyPathsRow.holds Try.pinned (OpenSpec.ofChange fnHeavyPathsWrong)

/-- 'laws.FnExactPictureOf': WHATEVER THE INPUT: true; the input reads as it did. -/
def fnExactPictureOfSpec : ChangeSpec := { name := "fnExactPictureOf", fn := fun _ => fun
  | [d] => { results := [.lit (.bool true)], args := [d] }
  | _ => none }
def fnExactPictureOfRow : OpenClaim := { program := "ytlealjliaifkcae", sum := "a86e0126bf3496c45ad36f162899848778372f5daaf06196c3be7d768b9059ca", func := "loop.example/g01391/laws.FnExactPictureOf", spec := "fnExactPictureOf", inPlace := ["internal/abi.NoEscape", "internal/bytealg.MakeNoZero"], recurses := true, apart := false }
def FnExactPictureOfSaid : Prop := fnExactPictureOfRow.holds Try.pinned (OpenSpec.ofChange fnExactPictureOfSpec)

/-- ITS FALSE NEIGHBOUR: 'it returns false'. Refute it at one input. -/
def fnExactPictureOfWrong : ChangeSpec := { name := "fnExactPictureOf", fn := fun _ => fun
  | [d] => { results := [.lit (.bool false)], args := [d] }
  | _ => none }
def FnExactPictureOfWrongFalsely : Prop := fnExactPictureOfRow.holds Try.pinned (OpenSpec.ofChange fnExactPictureOfWrong)

/-- 'laws.FnExactCommonPattern': WHATEVER THE INPUT: true; the input reads as it did. -/
def fnExactCommonPatternSpec : ChangeSpec := { name := "fnExactCommonPattern", fn := fun _ => fun
  | [d1, d2] => { results := [.lit (.bool true)], args := [d1, d2] }
  | _ => none }
def fnExactCommonPatternRow : OpenClaim := { program := "ytlealjliaifkcae", sum := "a86e0126bf3496c45ad36f162899848778372f5daaf06196c3be7d768b9059ca", func := "loop.example/g01391/laws.FnExactCommonPattern", spec := "fnExactCommonPattern", recurses := true, apart := false }
def FnExactCommonPatternSaid : Prop := fnExactCommonPatternRow.holds Try.pinned (OpenSpec.ofChange fnExactCommonPatternSpec)

/-- ITS FALSE NEIGHBOUR: 'it returns false'. Refute it at one input. -/
def fnExactCommonPatternWrong : ChangeSpec := { name := "fnExactCommonPattern", fn := fun _ => fun
  | [d1, d2] => { results := [.lit (.bool false)], args := [d1, d2] }
  | _ => none }
def FnExactCommonPatternWrongFalsely : Prop := fnExactCommonPatternRow.holds Try.pinned (OpenSpec.ofChange fnExactCommonPatternWrong)

/- THE SECOND FORM. 'bulk': how many values and letters a reading holds, each counted each time it is reached (what is shared counts as often as it is met; a slice's spare places count too). A statement '..UptoSaid' is the law's where the arguments, and the package variables that the reading takes, are together of bulk at most 1048576: NARROWER than '..Said'. Prove '..Said' where nothing that the law and all that it calls make is longer than what came in: it says more and counts as full. Else prove '..UptoSaid'. A law counts once. -/
mutual
def uptoBulk {H : Type} : DataW H → Nat
  | .lit (.string bytes) => bytes.length + 1
  | .lit _ => 1
  | .nil => 1
  | .ptr d => uptoBulk d + 1
  | .slice elems spare => uptoBulkAll elems + uptoBulkAll spare + 1
  | .agg parts => uptoBulkAll parts + 1
  | .iface _ d => uptoBulk d + 1
  | .map entries => uptoBulkEntries entries + 1
  | .held _ => 1
def uptoBulkAll {H : Type} : List (DataW H) → Nat
  | [] => 0
  | d :: r => uptoBulk d + uptoBulkAll r
def uptoBulkEntries {H : Type} : List (Lit × DataW H) → Nat
  | [] => 0
  | x :: r => uptoBulkEntry x + uptoBulkEntries r
def uptoBulkEntry {H : Type} : Lit × DataW H → Nat
  | (.string bytes, d) => bytes.length + uptoBulk d + 1
  | (_, d) => uptoBulk d + 1
 end
def uptoSmall : (H : Type) → List (DataW H) → Bool := fun _ ds => decide (uptoBulkAll ds ≤ 1048576)
def OpenSpec.upto (s : _root_.Go.ChangeSpec) : _root_.Go.OpenSpec := { _root_.Go.OpenSpec.ofChange s with cond := some uptoSmall }

/-- 'laws.FnExactGrowingOfRank', WHERE WHAT IT READS IS OF BULK AT MOST 1048576: true; the input reads as it did. -/
def fnExactGrowingOfRankUptoRow : OpenClaim := { program := "ytlealjliaifkcae", sum := "a86e0126bf3496c45ad36f162899848778372f5daaf06196c3be7d768b9059ca", func := "loop.example/g01391/laws.FnExactGrowingOfRank", spec := "fnExactGrowingOfRank", unfollowed := true, recurses := true, apart := false, narrowed := true }
def FnExactGrowingOfRankUptoSaid : Prop := fnExactGrowingOfRankUptoRow.holds Try.pinned (OpenSpec.upto fnExactGrowingOfRankSpec)

/-- 'laws.FnInside', WHERE WHAT IT READS IS OF BULK AT MOST 1048576: true; the input reads as it did. -/
def fnInsideUptoRow : OpenClaim := { program := "ytlealjliaifkcae", sum := "a86e0126bf3496c45ad36f162899848778372f5daaf06196c3be7d768b9059ca", func := "loop.example/g01391/laws.FnInside", spec := "fnInside", unfollowed := true, recurses := true, apart := false, narrowed := true }
def FnInsideUptoSaid : Prop := fnInsideUptoRow.holds Try.pinned (OpenSpec.upto fnInsideSpec)

/-- 'laws.FnExactDecreasingTree', WHERE WHAT IT READS IS OF BULK AT MOST 1048576: true; the input reads as it did. -/
def fnExactDecreasingTreeUptoRow : OpenClaim := { program := "ytlealjliaifkcae", sum := "a86e0126bf3496c45ad36f162899848778372f5daaf06196c3be7d768b9059ca", func := "loop.example/g01391/laws.FnExactDecreasingTree", spec := "fnExactDecreasingTree", recurses := true, apart := false, narrowed := true }
def FnExactDecreasingTreeUptoSaid : Prop := fnExactDecreasingTreeUptoRow.holds Try.pinned (OpenSpec.upto fnExactDecreasingTreeSpec)

/-- 'laws.FnHeavyPaths', WHERE WHAT IT READS IS OF BULK AT MOST 1048576: true; the input reads as it did. -/
def fnHeavyPathsUptoRow : OpenClaim := { program := "ytlealjliaifkcae", sum := "a86e0126bf3496c45ad36f162899848778372f5daaf06196c3be7d768b9059ca", func := "loop.example/g01391/laws.FnHeavyPaths", spec := "fnHeavyPaths", apart := false, narrowed := true }
def FnHeavyPathsUptoSaid : Prop := fnHeavyPathsUptoRow.holds Try.pinned (OpenSpec.upto fnHeavyPathsSpec)

/-- 'laws.FnExactPictureOf', WHERE WHAT IT READS IS OF BULK AT MOST 1048576: true; the input reads as it did. -/
def fnExactPictureOfUptoRow : OpenClaim := { program := "ytlealjliaifkcae", sum := "a86e0126bf3496c45ad36f162899848778372f5daaf06196c3be7d768b9059ca", func := "loop.example/g01391/laws.FnExactPictureOf", spec := "fnExactPictureOf", inPlace := ["internal/abi.NoEscape", "internal/bytealg.MakeNoZero"], recurses := true, apart := false, narrowed := true }
def FnExactPictureOfUptoSaid : Prop := fnExactPictureOfUptoRow.holds Try.pinned (OpenSpec.upto fnExactPictureOfSpec)

/-- 'laws.FnExactCommonPattern', WHERE WHAT IT READS IS OF BULK AT MOST 1048576: true; the input reads as it did. -/
def fnExactCommonPatternUptoRow : OpenClaim := { program := "ytlealjliaifkcae", sum := "a86e0126bf3496c45ad36f162899848778372f5daaf06196c3be7d768b9059ca", func := "loop.example/g01391/laws.FnExactCommonPattern", spec := "fnExactCommonPattern", recurses := true, apart := false, narrowed := true }
def FnExactCommonPatternUptoSaid : Prop := fnExactCommonPatternUptoRow.holds Try.pinned (OpenSpec.upto fnExactCommonPatternSpec)

end Rows
end Go.Proofs.Ytlealjliaifkcae
