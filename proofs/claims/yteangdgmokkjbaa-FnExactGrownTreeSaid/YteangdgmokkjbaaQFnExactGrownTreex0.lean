/- Functions as Lean functions, with their contracts: written by a program of this claim over the translation; some contracts are proved by hand. -/
import Derived.Test.YteangdgmokkjbaaProg
import Derived.Below
import Derived.Deep.Draws
import Derived.Deep.AppendLies
import Derived.Maps.AppendAt
import Derived.OwnWalk
import Derived.Laws.BytesArg
import Derived.Laws.MakeOwn
import Derived.Laws.OwnMore
import Derived.Deep.OwnRows
import Derived.Tactics
import Derived.Lib.ConvBytes
import Derived.Laws.Slices
import Derived.WalkKit
import Derived.KernelRfl
import Derived.RowKit3
import Derived.Deep.LoopGhost
import Derived.Deep.QuietTactic
import Derived.BigQuiet
import Derived.WideLaws
import Derived.Deep.DeepCutAuto
import Derived.Deep.CutBlock
import Derived.Deep.RegionHeld3
import Derived.Laws.Rows
import Derived.Lib.AppendStr
import Derived.ArgAppend
import Derived.Laws.IdiomCopy
import Derived.OrdersHeld
import Derived.Laws.BitsLemmas
import Derived.RowKit
import Derived.Test.YteangdgmokkjbaaGl
import Derived.Test.YteangdgmokkjbaaGw
import Derived.Test.YteangdgmokkjbaaWWords
import Derived.Test.YteangdgmokkjbaaWLast
import Derived.Test.YteangdgmokkjbaaWTab
import Derived.Test.YteangdgmokkjbaaWFour
import Derived.Test.YteangdgmokkjbaaWQPut
import Derived.Test.YteangdgmokkjbaaWApart
import Derived.Test.YteangdgmokkjbaaWArr
import Derived.Test.YteangdgmokkjbaaWZeros
import Derived.Test.YteangdgmokkjbaaWFoot
import Derived.Test.YteangdgmokkjbaaWKept
import Derived.Test.YteangdgmokkjbaaWShare
import Derived.Test.YteangdgmokkjbaaWN
import Derived.Test.YteangdgmokkjbaaWFootNe
import Derived.Test.YteangdgmokkjbaaWAt
import Derived.Test.YteangdgmokkjbaaWEqStruct
import Derived.Test.YteangdgmokkjbaaWRepsOne
import Derived.Test.YteangdgmokkjbaaWInv
import Derived.Test.YteangdgmokkjbaaWInvWords
import Derived.Test.YteangdgmokkjbaaWGuard
import Derived.Test.YteangdgmokkjbaaWNEv
import Derived.Test.YteangdgmokkjbaaWMore
namespace Go.Proofs.Yteangdgmokkjbaa.QFnExactGrownTree
open Go.RowKit Go.Proofs.Yteangdgmokkjbaa.Gl Go.Proofs.YteangdgmokkjbaaW.PrintWords Go.Proofs.YteangdgmokkjbaaW.PrintLast Go.Proofs.YteangdgmokkjbaaW.PrintMore
attribute [local go_sem] max2_int min2_int max_two min_two max_three min_three max_four min_four   -- for this text's walks alone
set_option linter.unusedVariables false
set_option linter.unusedSimpArgs false



def errW : Option Int → Value
 | none => .nilIface
 | some c => .iface 0 (.int .i64 c)
theorem errW_none : errW none = .nilIface := rfl
theorem errW_some (c : Int) : errW (some c) = .iface 0 (.int .i64 c) := rfl

theorem info2 : (Try.prog.info? 2).map (fun i => (i.zero, i.size, i.bytes)) = some (some (.int .i64 0), 1, 8) := by kernel_rfl
-- the values' own types

end Go.Proofs.Yteangdgmokkjbaa.QFnExactGrownTree
