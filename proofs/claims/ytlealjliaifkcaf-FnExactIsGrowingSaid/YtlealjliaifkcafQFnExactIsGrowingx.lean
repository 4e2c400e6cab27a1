/- Functions as Lean functions, with their contracts: written by a program of this claim over the translation; some contracts are proved by hand. -/
import Derived.Test.YtlealjliaifkcafQFnExactIsGrowingx0
import Derived.Test.YtlealjliaifkcafQFnExactIsGrowingx1
import Derived.Test.YtlealjliaifkcafQFnExactIsGrowingx2
import Derived.Test.YtlealjliaifkcafQFnExactIsGrowingx3
import Derived.Test.YtlealjliaifkcafQFnExactIsGrowingx4
import Derived.Test.YtlealjliaifkcafQFnExactIsGrowingx5
import Derived.Test.YtlealjliaifkcafQFnExactIsGrowingx6
import Derived.Test.YtlealjliaifkcafQFnExactIsGrowingx7
namespace Go.Proofs.Ytlealjliaifkcaf.QFnExactIsGrowing
open Go.RowKit Go.Proofs.Ytlealjliaifkcaf.Gl Go.Proofs.YtlealjliaifkcafW.PrintWords Go.Proofs.YtlealjliaifkcafW.PrintLast Go.Proofs.YtlealjliaifkcafW.PrintMore
attribute [local go_sem] max2_int min2_int max_two min_two max_three min_three max_four min_four   -- for this text's walks alone
set_option linter.unusedVariables false
set_option linter.unusedSimpArgs false

end Go.Proofs.Ytlealjliaifkcaf.QFnExactIsGrowing
