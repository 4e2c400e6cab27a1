/- Functions as Lean functions, with their contracts: written by a program of this claim over the translation; some contracts are proved by hand. -/
import Derived.Test.YtlealjliaifkcadQFnExactTakeOutx0
import Derived.Test.YtlealjliaifkcadQFnExactTakeOutx1
import Derived.Test.YtlealjliaifkcadQFnExactTakeOutx2
import Derived.Test.YtlealjliaifkcadQFnExactTakeOutx3
import Derived.Test.YtlealjliaifkcadQFnExactTakeOutx4
import Derived.Test.YtlealjliaifkcadQFnExactTakeOutx5
import Derived.Test.YtlealjliaifkcadQFnExactTakeOutx6
import Derived.Test.YtlealjliaifkcadQFnExactTakeOutx7
namespace Go.Proofs.Ytlealjliaifkcad.QFnExactTakeOut
open Go.RowKit Go.Proofs.Ytlealjliaifkcad.Gl Go.Proofs.YtlealjliaifkcadW.PrintWords Go.Proofs.YtlealjliaifkcadW.PrintLast Go.Proofs.YtlealjliaifkcadW.PrintMore
attribute [local go_sem] max2_int min2_int max_two min_two max_three min_three max_four min_four   -- for this text's walks alone
set_option linter.unusedVariables false
set_option linter.unusedSimpArgs false

end Go.Proofs.Ytlealjliaifkcad.QFnExactTakeOut
