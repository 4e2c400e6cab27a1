/- Functions as Lean functions, with their contracts: written by a program of this claim over the translation; some contracts are proved by hand. -/
import Derived.Test.YtlealjliaifkcabProg
import Derived.Below
import Derived.Deep.Draws
import Derived.Deep.AppendLies
import Derived.Maps.AppendAt
import Derived.OwnWalk
import Derived.Laws.BytesArg
import Derived.Laws.MakeOwn
import Derived.Laws.OwnMore
import Derived.Deep.OwnRows
import Derived.Tactics
import Derived.Lib.ConvBytes
import Derived.Laws.Slices
import Derived.WalkKit
import Derived.KernelRfl
import Derived.RowKit3
import Derived.Deep.LoopGhost
import Derived.Deep.QuietTactic
import Derived.BigQuiet
import Derived.WideLaws
import Derived.Deep.DeepCutAuto
import Derived.Deep.CutBlock
import Derived.Deep.RegionHeld3
import Derived.Laws.Rows
import Derived.Lib.AppendStr
import Derived.ArgAppend
import Derived.Laws.IdiomCopy
import Derived.OrdersHeld
import Derived.Laws.BitsLemmas
import Derived.RowKit
import Derived.Test.YtlealjliaifkcabGl
import Derived.Test.YtlealjliaifkcabWWords
import Derived.Test.YtlealjliaifkcabWLast
import Derived.Test.YtlealjliaifkcabWTab
import Derived.Test.YtlealjliaifkcabWFour
import Derived.Test.YtlealjliaifkcabWQPut
import Derived.Test.YtlealjliaifkcabWApart
import Derived.Test.YtlealjliaifkcabWArr
import Derived.Test.YtlealjliaifkcabWZeros
import Derived.Test.YtlealjliaifkcabWFoot
import Derived.Test.YtlealjliaifkcabWKept
import Derived.Test.YtlealjliaifkcabWShare
import Derived.Test.YtlealjliaifkcabWN
import Derived.Test.YtlealjliaifkcabWFootNe
import Derived.Test.YtlealjliaifkcabWAt
import Derived.Test.YtlealjliaifkcabWEqStruct
import Derived.Test.YtlealjliaifkcabWRepsOne
import Derived.Test.YtlealjliaifkcabWInv
import Derived.Test.YtlealjliaifkcabWInvWords
import Derived.Test.YtlealjliaifkcabWGuard
import Derived.Test.YtlealjliaifkcabWNEv
import Derived.Test.YtlealjliaifkcabWMore
namespace Go.Proofs.Ytlealjliaifkcab.QFnExactCountGrowing
open Go.RowKit Go.Proofs.Ytlealjliaifkcab.Gl Go.Proofs.YtlealjliaifkcabW.PrintWords Go.Proofs.YtlealjliaifkcabW.PrintLast Go.Proofs.YtlealjliaifkcabW.PrintMore
attribute [local go_sem] max2_int min2_int max_two min_two max_three min_three max_four min_four   -- for this text's walks alone
set_option linter.unusedVariables false
set_option linter.unusedSimpArgs false



def errW : Option Int → Value
  | none => .nilIface
  | some c => .iface 0 (.int .i64 c)
theorem errW_none : errW none = .nilIface := rfl
theorem errW_some (c : Int) : errW (some c) = .iface 0 (.int .i64 c) := rfl

theorem info2 : (Try.prog.info? 2).map (fun i => (i.zero, i.size, i.bytes)) = some (some (.int .i64 0), 1, 8) := by kernel_rfl
theorem info4 : (Try.prog.info? 4).map (fun i => (i.zero, i.size, i.bytes)) = some (some (.bool false), 1, 1) := by kernel_rfl
-- the values' own types

end Go.Proofs.Ytlealjliaifkcab.QFnExactCountGrowing
