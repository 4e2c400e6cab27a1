/- Functions as Lean functions, with their contracts: written by a program of this claim over the translation; some contracts are proved by hand. -/
import Derived.Test.YtlmaoeahdhbkdaaQFnExactRankOfGrowingx0
import Derived.Test.YtlmaoeahdhbkdaaQFnExactRankOfGrowingx1
import Derived.Test.YtlmaoeahdhbkdaaQFnExactRankOfGrowingx2
import Derived.Test.YtlmaoeahdhbkdaaQFnExactRankOfGrowingx3
import Derived.Test.YtlmaoeahdhbkdaaQFnExactRankOfGrowingx4
import Derived.Test.YtlmaoeahdhbkdaaQFnExactRankOfGrowingx5
import Derived.Test.YtlmaoeahdhbkdaaQFnExactRankOfGrowingx6
import Derived.Test.YtlmaoeahdhbkdaaQFnExactRankOfGrowingx7
import Derived.Test.YtlmaoeahdhbkdaaQFnExactRankOfGrowingx8
import Derived.Test.YtlmaoeahdhbkdaaQFnExactRankOfGrowingx9
import Derived.Test.YtlmaoeahdhbkdaaQFnExactRankOfGrowingx10
import Derived.Test.YtlmaoeahdhbkdaaQFnExactRankOfGrowingx11
import Derived.Test.YtlmaoeahdhbkdaaQFnExactRankOfGrowingx12
namespace Go.Proofs.Ytlmaoeahdhbkdaa.QFnExactRankOfGrowing
open Go.RowKit Go.Proofs.Ytlmaoeahdhbkdaa.Gl Go.Proofs.YtlmaoeahdhbkdaaW.PrintWords Go.Proofs.YtlmaoeahdhbkdaaW.PrintLast Go.Proofs.YtlmaoeahdhbkdaaW.PrintMore
attribute [local go_sem] max2_int min2_int max_two min_two max_three min_three max_four min_four   -- for this text's walks alone
set_option linter.unusedVariables false
set_option linter.unusedSimpArgs false

end Go.Proofs.Ytlmaoeahdhbkdaa.QFnExactRankOfGrowing
