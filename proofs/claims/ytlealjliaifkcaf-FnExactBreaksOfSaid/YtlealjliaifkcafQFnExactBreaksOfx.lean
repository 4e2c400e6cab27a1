/- Functions as Lean functions, with their contracts: written by a program of this claim over the translation; some contracts are proved by hand. -/
import Derived.Test.YtlealjliaifkcafQFnExactBreaksOfx0
import Derived.Test.YtlealjliaifkcafQFnExactBreaksOfx1
import Derived.Test.YtlealjliaifkcafQFnExactBreaksOfx2
import Derived.Test.YtlealjliaifkcafQFnExactBreaksOfx3
import Derived.Test.YtlealjliaifkcafQFnExactBreaksOfx4
import Derived.Test.YtlealjliaifkcafQFnExactBreaksOfx5
import Derived.Test.YtlealjliaifkcafQFnExactBreaksOfx6
import Derived.Test.YtlealjliaifkcafQFnExactBreaksOfx7
import Derived.Test.YtlealjliaifkcafQFnExactBreaksOfx8
namespace Go.Proofs.Ytlealjliaifkcaf.QFnExactBreaksOf
open Go.RowKit Go.Proofs.Ytlealjliaifkcaf.Gl Go.Proofs.YtlealjliaifkcafW.PrintWords Go.Proofs.YtlealjliaifkcafW.PrintLast Go.Proofs.YtlealjliaifkcafW.PrintMore
attribute [local go_sem] max2_int min2_int max_two min_two max_three min_three max_four min_four   -- for this text's walks alone
set_option linter.unusedVariables false
set_option linter.unusedSimpArgs false

end Go.Proofs.Ytlealjliaifkcaf.QFnExactBreaksOf
