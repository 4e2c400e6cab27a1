import Derived.Test.YtlppkilencpmeaaProg
import Derived.Below
import Derived.Deep.Draws
import Derived.Deep.AppendLies
import Derived.Maps.AppendAt
import Derived.OwnWalk
import Derived.Laws.BytesArg
import Derived.Laws.MakeOwn
import Derived.Laws.OwnMore
import Derived.Deep.OwnRows
import Derived.Tactics
import Derived.Lib.ConvBytes
import Derived.Laws.Slices
import Derived.WalkKit
import Derived.KernelRfl
import Derived.RowKit3
import Derived.Deep.LoopGhost
import Derived.Deep.QuietTactic
import Derived.BigQuiet
import Derived.WideLaws
import Derived.Deep.DeepCutAuto
import Derived.Deep.CutBlock
import Derived.Deep.RegionHeld3
import Derived.Laws.Rows
import Derived.Lib.AppendStr
import Derived.ArgAppend
import Derived.Laws.IdiomCopy
import Derived.OrdersHeld
import Derived.Laws.BitsLemmas
import Derived.RowKit
import Derived.Test.YtlppkilencpmeaaWWords
import Derived.Test.YtlppkilencpmeaaWLast
import Derived.Test.YtlppkilencpmeaaWTab
import Derived.Test.YtlppkilencpmeaaWFour
import Derived.Test.YtlppkilencpmeaaWQPut
import Derived.Test.YtlppkilencpmeaaWApart
import Derived.Test.YtlppkilencpmeaaWArr
import Derived.Test.YtlppkilencpmeaaWZeros
import Derived.Test.YtlppkilencpmeaaWFoot
import Derived.Test.YtlppkilencpmeaaWKept
import Derived.Test.YtlppkilencpmeaaWShare
import Derived.Test.YtlppkilencpmeaaWN
import Derived.Test.YtlppkilencpmeaaWFootNe
import Derived.Test.YtlppkilencpmeaaWAt
import Derived.Test.YtlppkilencpmeaaWEqStruct
import Derived.Test.YtlppkilencpmeaaWRepsOne
import Derived.Test.YtlppkilencpmeaaWInv
import Derived.Test.YtlppkilencpmeaaWInvWords
import Derived.Test.YtlppkilencpmeaaWGuard
import Derived.Test.YtlppkilencpmeaaWNEv
import Derived.Test.YtlppkilencpmeaaWMore
import Derived.Test.YtlppkilencpmeaaGl
namespace Go.Proofs.Ytlppkilencpmeaa.Mn
open Go.RowKit Go.Proofs.Ytlppkilencpmeaa Go.Proofs.Ytlppkilencpmeaa.Gl Go.Proofs.YtlppkilencpmeaaW.PrintWords Go.Proofs.YtlppkilencpmeaaW.PrintLast Go.Proofs.YtlppkilencpmeaaW.PrintMore
attribute [local go_sem] max2_int min2_int max_two min_two max_three min_three max_four min_four
set_option linter.unusedVariables false
set_option linter.unusedSimpArgs false

theorem ne_new {w : World} {g x : Nat} {o : Obj} (hg : g = w.heap.size) (h : w.heap[x]? = some o) : g ≠ x := by have := blk_lt h; omega
theorem ge_new {w0 w : World} {g : Nat} (hg : g = w.heap.size) (h : Below w0.heap.size w0 w) : w0.heap.size ≤ g := by have := h.size; omega

end Go.Proofs.Ytlppkilencpmeaa.Mn
