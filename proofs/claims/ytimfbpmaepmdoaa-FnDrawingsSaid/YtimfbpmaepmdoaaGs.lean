/- What the library's sort leaves of a row of the call's own. -/
import Derived.Test.YtimfbpmaepmdoaaGl
import Derived.Shelf.SortM.Plain
import Derived.Shelf.SortM.SortNone
namespace Go.Proofs.Ytimfbpmaepmdoaa.Gl
open Go.RowKit Go.Sort Go.Proofs.YtimfbpmaepmdoaaW.PrintWords Go.Proofs.YtimfbpmaepmdoaaW.PrintLast Go.Proofs.YtimfbpmaepmdoaaW.PrintMore
set_option linter.unusedVariables false
set_option linter.unusedSimpArgs false
end Go.Proofs.Ytimfbpmaepmdoaa.Gl
