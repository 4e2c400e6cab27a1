/- Functions as Lean functions, with their contracts: written by a program of this claim over the translation; some contracts are proved by hand. -/
import Derived.Test.YtlealjliaifkcaeQFnExactDecreasingTreex0
import Derived.Test.YtlealjliaifkcaeQFnExactDecreasingTreex1
import Derived.Test.YtlealjliaifkcaeQFnExactDecreasingTreex2
import Derived.Test.YtlealjliaifkcaeQFnExactDecreasingTreex3
namespace Go.Proofs.Ytlealjliaifkcae.QFnExactDecreasingTree
open Go.RowKit Go.Proofs.Ytlealjliaifkcae.Gl Go.Proofs.YtlealjliaifkcaeW.PrintWords Go.Proofs.YtlealjliaifkcaeW.PrintLast Go.Proofs.YtlealjliaifkcaeW.PrintMore
attribute [local go_sem] max2_int min2_int max_two min_two max_three min_three max_four min_four   -- for this text's walks alone
set_option linter.unusedVariables false
set_option linter.unusedSimpArgs false

end Go.Proofs.Ytlealjliaifkcae.QFnExactDecreasingTree
