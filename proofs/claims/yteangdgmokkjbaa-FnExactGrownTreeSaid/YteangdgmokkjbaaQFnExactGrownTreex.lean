/- Functions as Lean functions, with their contracts: written by a program of this claim over the translation; some contracts are proved by hand. -/
import Derived.Test.YteangdgmokkjbaaQFnExactGrownTreex0
import Derived.Test.YteangdgmokkjbaaQFnExactGrownTreex1
import Derived.Test.YteangdgmokkjbaaQFnExactGrownTreex2
import Derived.Test.YteangdgmokkjbaaQFnExactGrownTreex3
namespace Go.Proofs.Yteangdgmokkjbaa.QFnExactGrownTree
open Go.RowKit Go.Proofs.Yteangdgmokkjbaa.Gl Go.Proofs.YteangdgmokkjbaaW.PrintWords Go.Proofs.YteangdgmokkjbaaW.PrintLast Go.Proofs.YteangdgmokkjbaaW.PrintMore
attribute [local go_sem] max2_int min2_int max_two min_two max_three min_three max_four min_four   -- for this text's walks alone
set_option linter.unusedVariables false
set_option linter.unusedSimpArgs false

end Go.Proofs.Yteangdgmokkjbaa.QFnExactGrownTree
