/- Functions as Lean functions, with their contracts: written by a program of this claim over the translation; some contracts are proved by hand. -/
import Derived.Test.YteangdgmokkjbabProg
import Derived.Below
import Derived.Deep.Draws
import Derived.Deep.AppendLies
import Derived.Maps.AppendAt
import Derived.OwnWalk
import Derived.Laws.BytesArg
import Derived.Laws.MakeOwn
import Derived.Laws.OwnMore
import Derived.Deep.OwnRows
import Derived.Tactics
import Derived.Lib.ConvBytes
import Derived.Laws.Slices
import Derived.WalkKit
import Derived.KernelRfl
import Derived.RowKit3
import Derived.Deep.LoopGhost
import Derived.Deep.QuietTactic
import Derived.BigQuiet
import Derived.WideLaws
import Derived.Deep.DeepCutAuto
import Derived.Deep.CutBlock
import Derived.Deep.RegionHeld3
import Derived.Laws.Rows
import Derived.Lib.AppendStr
import Derived.ArgAppend
import Derived.Laws.IdiomCopy
import Derived.OrdersHeld
import Derived.Laws.BitsLemmas
import Derived.RowKit
import Derived.Test.YteangdgmokkjbabGl
import Derived.Test.YteangdgmokkjbabGs
import Derived.Test.YteangdgmokkjbabGw
import Derived.Test.YteangdgmokkjbabSortShelf
import Derived.Test.YteangdgmokkjbabWWords
import Derived.Test.YteangdgmokkjbabWLast
import Derived.Test.YteangdgmokkjbabWTab
import Derived.Test.YteangdgmokkjbabWFour
import Derived.Test.YteangdgmokkjbabWQPut
import Derived.Test.YteangdgmokkjbabWApart
import Derived.Test.YteangdgmokkjbabWArr
import Derived.Test.YteangdgmokkjbabWZeros
import Derived.Test.YteangdgmokkjbabWFoot
import Derived.Test.YteangdgmokkjbabWKept
import Derived.Test.YteangdgmokkjbabWShare
import Derived.Test.YteangdgmokkjbabWN
import Derived.Test.YteangdgmokkjbabWFootNe
import Derived.Test.YteangdgmokkjbabWAt
import Derived.Test.YteangdgmokkjbabWEqStruct
import Derived.Test.YteangdgmokkjbabWRepsOne
import Derived.Test.YteangdgmokkjbabWInv
import Derived.Test.YteangdgmokkjbabWInvWords
import Derived.Test.YteangdgmokkjbabWGuard
import Derived.Test.YteangdgmokkjbabWNEv
import Derived.Test.YteangdgmokkjbabWMore
namespace Go.Proofs.Yteangdgmokkjbab.QFnExactListOfGrowth
open Go.RowKit Go.Proofs.Yteangdgmokkjbab.Gl Go.Proofs.YteangdgmokkjbabW.PrintWords Go.Proofs.YteangdgmokkjbabW.PrintLast Go.Proofs.YteangdgmokkjbabW.PrintMore
attribute [local go_sem] max2_int min2_int max_two min_two max_three min_three max_four min_four   -- for this text's walks alone
set_option linter.unusedVariables false
set_option linter.unusedSimpArgs false



def errW : Option Int → Value
 | none => .nilIface
 | some c => .iface 0 (.int .i64 c)
theorem errW_none : errW none = .nilIface := rfl
theorem errW_some (c : Int) : errW (some c) = .iface 0 (.int .i64 c) := rfl

theorem info2 : (Try.prog.info? 2).map (fun i => (i.zero, i.size, i.bytes)) = some (some (.int .i64 0), 1, 8) := by kernel_rfl
theorem info4 : (Try.prog.info? 4).map (fun i => (i.zero, i.size, i.bytes)) = some (some (.bool false), 1, 1) := by kernel_rfl
-- the values' own types

end Go.Proofs.Yteangdgmokkjbab.QFnExactListOfGrowth
