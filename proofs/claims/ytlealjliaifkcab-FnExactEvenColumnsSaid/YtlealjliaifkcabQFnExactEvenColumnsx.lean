/- Functions as Lean functions, with their contracts: written by a program of this claim over the translation; some contracts are proved by hand. -/
import Derived.Test.YtlealjliaifkcabQFnExactEvenColumnsx0
import Derived.Test.YtlealjliaifkcabQFnExactEvenColumnsx1
import Derived.Test.YtlealjliaifkcabQFnExactEvenColumnsx2
import Derived.Test.YtlealjliaifkcabQFnExactEvenColumnsx3
import Derived.Test.YtlealjliaifkcabQFnExactEvenColumnsx4
import Derived.Test.YtlealjliaifkcabQFnExactEvenColumnsx5
namespace Go.Proofs.Ytlealjliaifkcab.QFnExactEvenColumns
open Go.RowKit Go.Proofs.Ytlealjliaifkcab.Gl Go.Proofs.YtlealjliaifkcabW.PrintWords Go.Proofs.YtlealjliaifkcabW.PrintLast Go.Proofs.YtlealjliaifkcabW.PrintMore
attribute [local go_sem] max2_int min2_int max_two min_two max_three min_three max_four min_four   -- for this text's walks alone
set_option linter.unusedVariables false
set_option linter.unusedSimpArgs false

end Go.Proofs.Ytlealjliaifkcab.QFnExactEvenColumns
