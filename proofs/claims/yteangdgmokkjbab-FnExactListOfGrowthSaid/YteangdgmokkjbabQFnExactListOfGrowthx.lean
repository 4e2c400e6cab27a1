/- Functions as Lean functions, with their contracts: written by a program of this claim over the translation; some contracts are proved by hand. -/
import Derived.Test.YteangdgmokkjbabQFnExactListOfGrowthx0
import Derived.Test.YteangdgmokkjbabQFnExactListOfGrowthx1
import Derived.Test.YteangdgmokkjbabQFnExactListOfGrowthx2
import Derived.Test.YteangdgmokkjbabQFnExactListOfGrowthx3
import Derived.Test.YteangdgmokkjbabQFnExactListOfGrowthx4
import Derived.Test.YteangdgmokkjbabQFnExactListOfGrowthx5
import Derived.Test.YteangdgmokkjbabQFnExactListOfGrowthx6
import Derived.Test.YteangdgmokkjbabQFnExactListOfGrowthx7
import Derived.Test.YteangdgmokkjbabQFnExactListOfGrowthx8
import Derived.Test.YteangdgmokkjbabQFnExactListOfGrowthx9
import Derived.Test.YteangdgmokkjbabQFnExactListOfGrowthx10
import Derived.Test.YteangdgmokkjbabQFnExactListOfGrowthx11
import Derived.Test.YteangdgmokkjbabQFnExactListOfGrowthx12
namespace Go.Proofs.Yteangdgmokkjbab.QFnExactListOfGrowth
open Go.RowKit Go.Proofs.Yteangdgmokkjbab.Gl Go.Proofs.YteangdgmokkjbabW.PrintWords Go.Proofs.YteangdgmokkjbabW.PrintLast Go.Proofs.YteangdgmokkjbabW.PrintMore
attribute [local go_sem] max2_int min2_int max_two min_two max_three min_three max_four min_four   -- for this text's walks alone
set_option linter.unusedVariables false
set_option linter.unusedSimpArgs false

end Go.Proofs.Yteangdgmokkjbab.QFnExactListOfGrowth
