/- Functions as Lean functions, with their contracts: written by a program of this claim over the translation; some contracts are proved by hand. -/
import Derived.Test.YtlealjliaifkcabQFnExactCountGrowingx0
import Derived.Test.YtlealjliaifkcabQFnExactCountGrowingx1
import Derived.Test.YtlealjliaifkcabQFnExactCountGrowingx2
import Derived.Test.YtlealjliaifkcabQFnExactCountGrowingx3
import Derived.Test.YtlealjliaifkcabQFnExactCountGrowingx4
namespace Go.Proofs.Ytlealjliaifkcab.QFnExactCountGrowing
open Go.RowKit Go.Proofs.Ytlealjliaifkcab.Gl Go.Proofs.YtlealjliaifkcabW.PrintWords Go.Proofs.YtlealjliaifkcabW.PrintLast Go.Proofs.YtlealjliaifkcabW.PrintMore
attribute [local go_sem] max2_int min2_int max_two min_two max_three min_three max_four min_four   -- for this text's walks alone
set_option linter.unusedVariables false
set_option linter.unusedSimpArgs false

end Go.Proofs.Ytlealjliaifkcab.QFnExactCountGrowing
