/- Functions as Lean functions, with their contracts: written by a program of this claim over the translation; some contracts are proved by hand. -/
import Derived.Test.YtlmaoeahdhbkdaaQFnExactExchangeAtx0
import Derived.Test.YtlmaoeahdhbkdaaQFnExactExchangeAtx1
import Derived.Test.YtlmaoeahdhbkdaaQFnExactExchangeAtx2
import Derived.Test.YtlmaoeahdhbkdaaQFnExactExchangeAtx3
import Derived.Test.YtlmaoeahdhbkdaaQFnExactExchangeAtx4
import Derived.Test.YtlmaoeahdhbkdaaQFnExactExchangeAtx5
import Derived.Test.YtlmaoeahdhbkdaaQFnExactExchangeAtx6
import Derived.Test.YtlmaoeahdhbkdaaQFnExactExchangeAtx7
import Derived.Test.YtlmaoeahdhbkdaaQFnExactExchangeAtx8
import Derived.Test.YtlmaoeahdhbkdaaQFnExactExchangeAtx9
namespace Go.Proofs.Ytlmaoeahdhbkdaa.QFnExactExchangeAt
open Go.RowKit Go.Proofs.Ytlmaoeahdhbkdaa.Gl Go.Proofs.YtlmaoeahdhbkdaaW.PrintWords Go.Proofs.YtlmaoeahdhbkdaaW.PrintLast Go.Proofs.YtlmaoeahdhbkdaaW.PrintMore
attribute [local go_sem] max2_int min2_int max_two min_two max_three min_three max_four min_four   -- for this text's walks alone
set_option linter.unusedVariables false
set_option linter.unusedSimpArgs false

end Go.Proofs.Ytlmaoeahdhbkdaa.QFnExactExchangeAt
