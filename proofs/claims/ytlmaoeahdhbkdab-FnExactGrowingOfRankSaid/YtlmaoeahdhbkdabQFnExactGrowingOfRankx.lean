/- Functions as Lean functions, with their contracts: written by a program of this claim over the translation; some contracts are proved by hand. -/
import Derived.Test.YtlmaoeahdhbkdabQFnExactGrowingOfRankx0
import Derived.Test.YtlmaoeahdhbkdabQFnExactGrowingOfRankx1
import Derived.Test.YtlmaoeahdhbkdabQFnExactGrowingOfRankx2
import Derived.Test.YtlmaoeahdhbkdabQFnExactGrowingOfRankx3
import Derived.Test.YtlmaoeahdhbkdabQFnExactGrowingOfRankx4
import Derived.Test.YtlmaoeahdhbkdabQFnExactGrowingOfRankx5
import Derived.Test.YtlmaoeahdhbkdabQFnExactGrowingOfRankx6
import Derived.Test.YtlmaoeahdhbkdabQFnExactGrowingOfRankx7
import Derived.Test.YtlmaoeahdhbkdabQFnExactGrowingOfRankx8
import Derived.Test.YtlmaoeahdhbkdabQFnExactGrowingOfRankx9
namespace Go.Proofs.Ytlmaoeahdhbkdab.QFnExactGrowingOfRank
open Go.RowKit Go.Proofs.Ytlmaoeahdhbkdab.Gl Go.Proofs.YtlmaoeahdhbkdabW.PrintWords Go.Proofs.YtlmaoeahdhbkdabW.PrintLast Go.Proofs.YtlmaoeahdhbkdabW.PrintMore
attribute [local go_sem] max2_int min2_int max_two min_two max_three min_three max_four min_four   -- for this text's walks alone
set_option linter.unusedVariables false
set_option linter.unusedSimpArgs false

end Go.Proofs.Ytlmaoeahdhbkdab.QFnExactGrowingOfRank
