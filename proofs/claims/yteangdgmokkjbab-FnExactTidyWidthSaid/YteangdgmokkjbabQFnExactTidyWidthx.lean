/- Functions as Lean functions, with their contracts: written by a program of this claim over the translation; some contracts are proved by hand. -/
import Derived.Test.YteangdgmokkjbabQFnExactTidyWidthx0
import Derived.Test.YteangdgmokkjbabQFnExactTidyWidthx1
import Derived.Test.YteangdgmokkjbabQFnExactTidyWidthx2
import Derived.Test.YteangdgmokkjbabQFnExactTidyWidthx3
import Derived.Test.YteangdgmokkjbabQFnExactTidyWidthx4
import Derived.Test.YteangdgmokkjbabQFnExactTidyWidthx5
import Derived.Test.YteangdgmokkjbabQFnExactTidyWidthx6
import Derived.Test.YteangdgmokkjbabQFnExactTidyWidthx7
import Derived.Test.YteangdgmokkjbabQFnExactTidyWidthx8
namespace Go.Proofs.Yteangdgmokkjbab.QFnExactTidyWidth
open Go.RowKit Go.Proofs.Yteangdgmokkjbab.Gl Go.Proofs.YteangdgmokkjbabW.PrintWords Go.Proofs.YteangdgmokkjbabW.PrintLast Go.Proofs.YteangdgmokkjbabW.PrintMore
attribute [local go_sem] max2_int min2_int max_two min_two max_three min_three max_four min_four   -- for this text's walks alone
set_option linter.unusedVariables false
set_option linter.unusedSimpArgs false

end Go.Proofs.Yteangdgmokkjbab.QFnExactTidyWidth
