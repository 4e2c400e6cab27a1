/- Functions as Lean functions, with their contracts: written by a program of this claim over the translation; some contracts are proved by hand. -/
import Derived.Test.YteangdgmokkjbabQFnExactTidyColumnsx0
import Derived.Test.YteangdgmokkjbabQFnExactTidyColumnsx1
import Derived.Test.YteangdgmokkjbabQFnExactTidyColumnsx2
import Derived.Test.YteangdgmokkjbabQFnExactTidyColumnsx3
import Derived.Test.YteangdgmokkjbabQFnExactTidyColumnsx4
import Derived.Test.YteangdgmokkjbabQFnExactTidyColumnsx5
import Derived.Test.YteangdgmokkjbabQFnExactTidyColumnsx6
import Derived.Test.YteangdgmokkjbabQFnExactTidyColumnsx7
import Derived.Test.YteangdgmokkjbabQFnExactTidyColumnsx8
namespace Go.Proofs.Yteangdgmokkjbab.QFnExactTidyColumns
open Go.RowKit Go.Proofs.Yteangdgmokkjbab.Gl Go.Proofs.YteangdgmokkjbabW.PrintWords Go.Proofs.YteangdgmokkjbabW.PrintLast Go.Proofs.YteangdgmokkjbabW.PrintMore
attribute [local go_sem] max2_int min2_int max_two min_two max_three min_three max_four min_four   -- for this text's walks alone
set_option linter.unusedVariables false
set_option linter.unusedSimpArgs false

end Go.Proofs.Yteangdgmokkjbab.QFnExactTidyColumns
