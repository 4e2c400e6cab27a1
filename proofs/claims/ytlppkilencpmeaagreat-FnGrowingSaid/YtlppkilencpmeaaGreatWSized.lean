import Derived.SizedLaws
import Derived.ChangeSlices
namespace Go.Proofs.YtlppkilencpmeaaGreatW.PrintWords
open Go.ChangeShapes Go.WideShapes
end Go.Proofs.YtlppkilencpmeaaGreatW.PrintWords
