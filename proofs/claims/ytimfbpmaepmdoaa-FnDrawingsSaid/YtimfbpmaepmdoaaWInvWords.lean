import Derived.Test.YtimfbpmaepmdoaaWInv
import Derived.Test.YtimfbpmaepmdoaaWFootNe
namespace Go.Proofs.YtimfbpmaepmdoaaW.PrintWords
open Go.RowKit
end Go.Proofs.YtimfbpmaepmdoaaW.PrintWords
namespace Go.Proofs.YtimfbpmaepmdoaaW.PrintLast
section
variable {ops:Array Oper} {a:Act} {o og:Oper} {g:Nat} {t:Tmp} {u:Bool}
end
end Go.Proofs.YtimfbpmaepmdoaaW.PrintLast
