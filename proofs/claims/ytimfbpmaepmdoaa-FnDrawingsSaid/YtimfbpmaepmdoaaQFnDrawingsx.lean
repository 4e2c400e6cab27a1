/- Functions as Lean functions, with their contracts: written by a program of this claim over the translation; some contracts are proved by hand. -/
import Derived.Test.YtimfbpmaepmdoaaQFnDrawingsx0
import Derived.Test.YtimfbpmaepmdoaaQFnDrawingsx1
import Derived.Test.YtimfbpmaepmdoaaQFnDrawingsx2
import Derived.Test.YtimfbpmaepmdoaaQFnDrawingsx3
import Derived.Test.YtimfbpmaepmdoaaQFnDrawingsx4
import Derived.Test.YtimfbpmaepmdoaaQFnDrawingsx5
import Derived.Test.YtimfbpmaepmdoaaQFnDrawingsx6
import Derived.Test.YtimfbpmaepmdoaaQFnDrawingsx7
import Derived.Test.YtimfbpmaepmdoaaQFnDrawingsx8
import Derived.Test.YtimfbpmaepmdoaaQFnDrawingsx9
import Derived.Test.YtimfbpmaepmdoaaQFnDrawingsx10
import Derived.Test.YtimfbpmaepmdoaaQFnDrawingsx11
import Derived.Test.YtimfbpmaepmdoaaQFnDrawingsx12
import Derived.Test.YtimfbpmaepmdoaaQFnDrawingsx13
import Derived.Test.YtimfbpmaepmdoaaQFnDrawingsx14
import Derived.Test.YtimfbpmaepmdoaaQFnDrawingsx15
import Derived.Test.YtimfbpmaepmdoaaQFnDrawingsx16
namespace Go.Proofs.Ytimfbpmaepmdoaa.QFnDrawings
open Go.RowKit Go.Proofs.Ytimfbpmaepmdoaa.Gl Go.Proofs.YtimfbpmaepmdoaaW.PrintWords Go.Proofs.YtimfbpmaepmdoaaW.PrintLast Go.Proofs.YtimfbpmaepmdoaaW.PrintMore
attribute [local go_sem] max2_int min2_int max_two min_two max_three min_three max_four min_four   -- for this text's walks alone
set_option linter.unusedVariables false
set_option linter.unusedSimpArgs false

end Go.Proofs.Ytimfbpmaepmdoaa.QFnDrawings
