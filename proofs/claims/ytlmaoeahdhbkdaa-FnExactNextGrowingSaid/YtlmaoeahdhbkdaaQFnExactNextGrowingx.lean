/- Functions as Lean functions, with their contracts: written by a program of this claim over the translation; some contracts are proved by hand. -/
import Derived.Test.YtlmaoeahdhbkdaaQFnExactNextGrowingx0
import Derived.Test.YtlmaoeahdhbkdaaQFnExactNextGrowingx1
import Derived.Test.YtlmaoeahdhbkdaaQFnExactNextGrowingx2
import Derived.Test.YtlmaoeahdhbkdaaQFnExactNextGrowingx3
import Derived.Test.YtlmaoeahdhbkdaaQFnExactNextGrowingx4
import Derived.Test.YtlmaoeahdhbkdaaQFnExactNextGrowingx5
import Derived.Test.YtlmaoeahdhbkdaaQFnExactNextGrowingx6
import Derived.Test.YtlmaoeahdhbkdaaQFnExactNextGrowingx7
import Derived.Test.YtlmaoeahdhbkdaaQFnExactNextGrowingx8
import Derived.Test.YtlmaoeahdhbkdaaQFnExactNextGrowingx9
import Derived.Test.YtlmaoeahdhbkdaaQFnExactNextGrowingx10
import Derived.Test.YtlmaoeahdhbkdaaQFnExactNextGrowingx11
import Derived.Test.YtlmaoeahdhbkdaaQFnExactNextGrowingx12
namespace Go.Proofs.Ytlmaoeahdhbkdaa.QFnExactNextGrowing
open Go.RowKit Go.Proofs.Ytlmaoeahdhbkdaa.Gl Go.Proofs.YtlmaoeahdhbkdaaW.PrintWords Go.Proofs.YtlmaoeahdhbkdaaW.PrintLast Go.Proofs.YtlmaoeahdhbkdaaW.PrintMore
attribute [local go_sem] max2_int min2_int max_two min_two max_three min_three max_four min_four   -- for this text's walks alone
set_option linter.unusedVariables false
set_option linter.unusedSimpArgs false

end Go.Proofs.Ytlmaoeahdhbkdaa.QFnExactNextGrowing
