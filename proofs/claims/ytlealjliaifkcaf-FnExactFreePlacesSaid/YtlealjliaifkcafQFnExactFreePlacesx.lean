/- Functions as Lean functions, with their contracts: written by a program of this claim over the translation; some contracts are proved by hand. -/
import Derived.Test.YtlealjliaifkcafQFnExactFreePlacesx0
import Derived.Test.YtlealjliaifkcafQFnExactFreePlacesx1
import Derived.Test.YtlealjliaifkcafQFnExactFreePlacesx2
import Derived.Test.YtlealjliaifkcafQFnExactFreePlacesx3
import Derived.Test.YtlealjliaifkcafQFnExactFreePlacesx4
import Derived.Test.YtlealjliaifkcafQFnExactFreePlacesx5
import Derived.Test.YtlealjliaifkcafQFnExactFreePlacesx6
import Derived.Test.YtlealjliaifkcafQFnExactFreePlacesx7
import Derived.Test.YtlealjliaifkcafQFnExactFreePlacesx8
namespace Go.Proofs.Ytlealjliaifkcaf.QFnExactFreePlaces
open Go.RowKit Go.Proofs.Ytlealjliaifkcaf.Gl Go.Proofs.YtlealjliaifkcafW.PrintWords Go.Proofs.YtlealjliaifkcafW.PrintLast Go.Proofs.YtlealjliaifkcafW.PrintMore
attribute [local go_sem] max2_int min2_int max_two min_two max_three min_three max_four min_four   -- for this text's walks alone
set_option linter.unusedVariables false
set_option linter.unusedSimpArgs false

end Go.Proofs.Ytlealjliaifkcaf.QFnExactFreePlaces
