/- Functions as Lean functions, with their contracts: written by a program of this claim over the translation; some contracts are proved by hand. -/
import Derived.Test.YtlealjliaifkcacQFnExactLastGrowingx0
import Derived.Test.YtlealjliaifkcacQFnExactLastGrowingx1
import Derived.Test.YtlealjliaifkcacQFnExactLastGrowingx2
import Derived.Test.YtlealjliaifkcacQFnExactLastGrowingx3
import Derived.Test.YtlealjliaifkcacQFnExactLastGrowingx4
import Derived.Test.YtlealjliaifkcacQFnExactLastGrowingx5
import Derived.Test.YtlealjliaifkcacQFnExactLastGrowingx6
namespace Go.Proofs.Ytlealjliaifkcac.QFnExactLastGrowing
open Go.RowKit Go.Proofs.Ytlealjliaifkcac.Gl Go.Proofs.YtlealjliaifkcacW.PrintWords Go.Proofs.YtlealjliaifkcacW.PrintLast Go.Proofs.YtlealjliaifkcacW.PrintMore
attribute [local go_sem] max2_int min2_int max_two min_two max_three min_three max_four min_four   -- for this text's walks alone
set_option linter.unusedVariables false
set_option linter.unusedSimpArgs false

end Go.Proofs.Ytlealjliaifkcac.QFnExactLastGrowing
