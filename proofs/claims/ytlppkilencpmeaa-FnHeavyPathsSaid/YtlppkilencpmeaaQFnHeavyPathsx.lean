/- Functions as Lean functions, with their contracts: written by a program of this claim over the translation; some contracts are proved by hand. -/
import Derived.Test.YtlppkilencpmeaaQFnHeavyPathsx0
import Derived.Test.YtlppkilencpmeaaQFnHeavyPathsx1
import Derived.Test.YtlppkilencpmeaaQFnHeavyPathsx2
import Derived.Test.YtlppkilencpmeaaQFnHeavyPathsx3
import Derived.Test.YtlppkilencpmeaaQFnHeavyPathsx4
import Derived.Test.YtlppkilencpmeaaQFnHeavyPathsx5
import Derived.Test.YtlppkilencpmeaaQFnHeavyPathsx6
import Derived.Test.YtlppkilencpmeaaQFnHeavyPathsx7
import Derived.Test.YtlppkilencpmeaaQFnHeavyPathsx8
import Derived.Test.YtlppkilencpmeaaQFnHeavyPathsx9
import Derived.Test.YtlppkilencpmeaaQFnHeavyPathsx10
import Derived.Test.YtlppkilencpmeaaQFnHeavyPathsx11
import Derived.Test.YtlppkilencpmeaaQFnHeavyPathsx12
import Derived.Test.YtlppkilencpmeaaQFnHeavyPathsx13
import Derived.Test.YtlppkilencpmeaaQFnHeavyPathsx14
namespace Go.Proofs.Ytlppkilencpmeaa.QFnHeavyPaths
open Go.RowKit Go.Proofs.Ytlppkilencpmeaa.Gl Go.Proofs.YtlppkilencpmeaaW.PrintWords Go.Proofs.YtlppkilencpmeaaW.PrintLast Go.Proofs.YtlppkilencpmeaaW.PrintMore
attribute [local go_sem] max2_int min2_int max_two min_two max_three min_three max_four min_four   -- for this text's walks alone
set_option linter.unusedVariables false
set_option linter.unusedSimpArgs false

end Go.Proofs.Ytlppkilencpmeaa.QFnHeavyPaths
