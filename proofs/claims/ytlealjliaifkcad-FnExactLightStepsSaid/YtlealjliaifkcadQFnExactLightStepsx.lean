/- Functions as Lean functions, with their contracts: written by a program of this claim over the translation; some contracts are proved by hand. -/
import Derived.Test.YtlealjliaifkcadQFnExactLightStepsx0
import Derived.Test.YtlealjliaifkcadQFnExactLightStepsx1
import Derived.Test.YtlealjliaifkcadQFnExactLightStepsx2
import Derived.Test.YtlealjliaifkcadQFnExactLightStepsx3
import Derived.Test.YtlealjliaifkcadQFnExactLightStepsx4
import Derived.Test.YtlealjliaifkcadQFnExactLightStepsx5
import Derived.Test.YtlealjliaifkcadQFnExactLightStepsx6
namespace Go.Proofs.Ytlealjliaifkcad.QFnExactLightSteps
open Go.RowKit Go.Proofs.Ytlealjliaifkcad.Gl Go.Proofs.YtlealjliaifkcadW.PrintWords Go.Proofs.YtlealjliaifkcadW.PrintLast Go.Proofs.YtlealjliaifkcadW.PrintMore
attribute [local go_sem] max2_int min2_int max_two min_two max_three min_three max_four min_four   -- for this text's walks alone
set_option linter.unusedVariables false
set_option linter.unusedSimpArgs false

end Go.Proofs.Ytlealjliaifkcad.QFnExactLightSteps
