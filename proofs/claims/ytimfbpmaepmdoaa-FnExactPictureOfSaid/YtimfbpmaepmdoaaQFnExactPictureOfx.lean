/- Functions as Lean functions, with their contracts: written by a program of this claim over the translation; some contracts are proved by hand. -/
import Derived.Test.YtimfbpmaepmdoaaQFnExactPictureOfx0
import Derived.Test.YtimfbpmaepmdoaaQFnExactPictureOfx1
import Derived.Test.YtimfbpmaepmdoaaQFnExactPictureOfx2
import Derived.Test.YtimfbpmaepmdoaaQFnExactPictureOfx3
import Derived.Test.YtimfbpmaepmdoaaQFnExactPictureOfx4
import Derived.Test.YtimfbpmaepmdoaaQFnExactPictureOfx5
import Derived.Test.YtimfbpmaepmdoaaQFnExactPictureOfx6
import Derived.Test.YtimfbpmaepmdoaaQFnExactPictureOfx7
import Derived.Test.YtimfbpmaepmdoaaQFnExactPictureOfx8
import Derived.Test.YtimfbpmaepmdoaaQFnExactPictureOfx9
import Derived.Test.YtimfbpmaepmdoaaQFnExactPictureOfx10
namespace Go.Proofs.Ytimfbpmaepmdoaa.QFnExactPictureOf
open Go.RowKit Go.Proofs.Ytimfbpmaepmdoaa.Gl Go.Proofs.YtimfbpmaepmdoaaW.PrintWords Go.Proofs.YtimfbpmaepmdoaaW.PrintLast Go.Proofs.YtimfbpmaepmdoaaW.PrintMore
attribute [local go_sem] max2_int min2_int max_two min_two max_three min_three max_four min_four   -- for this text's walks alone
set_option linter.unusedVariables false
set_option linter.unusedSimpArgs false

end Go.Proofs.Ytimfbpmaepmdoaa.QFnExactPictureOf
