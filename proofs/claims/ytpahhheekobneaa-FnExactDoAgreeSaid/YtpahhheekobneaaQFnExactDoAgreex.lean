/- Functions as Lean functions, with their contracts: written by a program of this claim over the translation; some contracts are proved by hand. -/
import Derived.Test.YtpahhheekobneaaQFnExactDoAgreex0
import Derived.Test.YtpahhheekobneaaQFnExactDoAgreex1
import Derived.Test.YtpahhheekobneaaQFnExactDoAgreex2
import Derived.Test.YtpahhheekobneaaQFnExactDoAgreex3
import Derived.Test.YtpahhheekobneaaQFnExactDoAgreex4
import Derived.Test.YtpahhheekobneaaQFnExactDoAgreex5
import Derived.Test.YtpahhheekobneaaQFnExactDoAgreex6
import Derived.Test.YtpahhheekobneaaQFnExactDoAgreex7
namespace Go.Proofs.Ytpahhheekobneaa.QFnExactDoAgree
open Go.RowKit Go.Proofs.Ytpahhheekobneaa.Gl Go.Proofs.YtpahhheekobneaaW.PrintWords Go.Proofs.YtpahhheekobneaaW.PrintLast Go.Proofs.YtpahhheekobneaaW.PrintMore
attribute [local go_sem] max2_int min2_int max_two min_two max_three min_three max_four min_four   -- for this text's walks alone
set_option linter.unusedVariables false
set_option linter.unusedSimpArgs false

end Go.Proofs.Ytpahhheekobneaa.QFnExactDoAgree
