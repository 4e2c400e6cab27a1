/- All contracts that FnExactLeafDistance reaches. -/
import Derived.Test.YtdgldpbjdeikeaaPFnExactLeafDistancex0
import Derived.Test.YtdgldpbjdeikeaaPFnExactLeafDistancex1
import Derived.Test.YtdgldpbjdeikeaaPFnExactLeafDistancex2
import Derived.Test.YtdgldpbjdeikeaaPFnExactLeafDistancex3
import Derived.Test.YtdgldpbjdeikeaaPFnExactLeafDistancex4
import Derived.Test.YtdgldpbjdeikeaaHFnExactLeafDistancex5
import Derived.Test.YtdgldpbjdeikeaaHFnExactLeafDistancex6
import Derived.Test.YtdgldpbjdeikeaaHFnExactLeafDistancex7
namespace Go.Proofs.Ytdgldpbjdeikeaa.PFnExactLeafDistance
open Go.RowKit Go.Proofs.YtdgldpbjdeikeaaW.PrintWords Go.Proofs.YtdgldpbjdeikeaaW.PrintLast Go.Proofs.YtdgldpbjdeikeaaW.PrintMore
attribute [local go_sem] max2_int min2_int max_two min_two max_three min_three max_four min_four   -- for this text's walks alone
set_option linter.unusedVariables false
set_option linter.unusedSimpArgs false

end Go.Proofs.Ytdgldpbjdeikeaa.PFnExactLeafDistance
