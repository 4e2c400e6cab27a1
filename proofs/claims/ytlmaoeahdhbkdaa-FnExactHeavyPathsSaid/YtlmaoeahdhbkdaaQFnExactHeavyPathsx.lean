/- Functions as Lean functions, with their contracts: written by a program of this claim over the translation; some contracts are proved by hand. -/
import Derived.Test.YtlmaoeahdhbkdaaQFnExactHeavyPathsx0
import Derived.Test.YtlmaoeahdhbkdaaQFnExactHeavyPathsx1
import Derived.Test.YtlmaoeahdhbkdaaQFnExactHeavyPathsx2
import Derived.Test.YtlmaoeahdhbkdaaQFnExactHeavyPathsx3
import Derived.Test.YtlmaoeahdhbkdaaQFnExactHeavyPathsx4
import Derived.Test.YtlmaoeahdhbkdaaQFnExactHeavyPathsx5
import Derived.Test.YtlmaoeahdhbkdaaQFnExactHeavyPathsx6
namespace Go.Proofs.Ytlmaoeahdhbkdaa.QFnExactHeavyPaths
open Go.RowKit Go.Proofs.Ytlmaoeahdhbkdaa.Gl Go.Proofs.YtlmaoeahdhbkdaaW.PrintWords Go.Proofs.YtlmaoeahdhbkdaaW.PrintLast Go.Proofs.YtlmaoeahdhbkdaaW.PrintMore
attribute [local go_sem] max2_int min2_int max_two min_two max_three min_three max_four min_four   -- for this text's walks alone
set_option linter.unusedVariables false
set_option linter.unusedSimpArgs false

end Go.Proofs.Ytlmaoeahdhbkdaa.QFnExactHeavyPaths
