/- Functions as Lean functions, with their contracts: written by a program of this claim over the translation; some contracts are proved by hand. -/
import Derived.Test.YtlealjliaifkcacQFnExactBesideOfx0
import Derived.Test.YtlealjliaifkcacQFnExactBesideOfx1
import Derived.Test.YtlealjliaifkcacQFnExactBesideOfx2
import Derived.Test.YtlealjliaifkcacQFnExactBesideOfx3
import Derived.Test.YtlealjliaifkcacQFnExactBesideOfx4
import Derived.Test.YtlealjliaifkcacQFnExactBesideOfx5
namespace Go.Proofs.Ytlealjliaifkcac.QFnExactBesideOf
open Go.RowKit Go.Proofs.Ytlealjliaifkcac.Gl Go.Proofs.YtlealjliaifkcacW.PrintWords Go.Proofs.YtlealjliaifkcacW.PrintLast Go.Proofs.YtlealjliaifkcacW.PrintMore
attribute [local go_sem] max2_int min2_int max_two min_two max_three min_three max_four min_four   -- for this text's walks alone
set_option linter.unusedVariables false
set_option linter.unusedSimpArgs false

end Go.Proofs.Ytlealjliaifkcac.QFnExactBesideOf
