import Derived.Test.YtlppkilencpmeaaGreatWInv
import Derived.Test.YtlppkilencpmeaaGreatWFootNe
namespace Go.Proofs.YtlppkilencpmeaaGreatW.PrintWords
open Go.RowKit
end Go.Proofs.YtlppkilencpmeaaGreatW.PrintWords
namespace Go.Proofs.YtlppkilencpmeaaGreatW.PrintLast
section
variable {ops:Array Oper} {a:Act} {o og:Oper} {g:Nat} {t:Tmp} {u:Bool}
end
end Go.Proofs.YtlppkilencpmeaaGreatW.PrintLast
