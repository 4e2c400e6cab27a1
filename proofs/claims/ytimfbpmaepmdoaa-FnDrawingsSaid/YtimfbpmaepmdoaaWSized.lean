import Derived.SizedLaws
import Derived.ChangeSlices
namespace Go.Proofs.YtimfbpmaepmdoaaW.PrintWords
open Go.ChangeShapes Go.WideShapes
end Go.Proofs.YtimfbpmaepmdoaaW.PrintWords
