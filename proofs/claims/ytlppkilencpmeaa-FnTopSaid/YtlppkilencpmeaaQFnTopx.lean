/- Functions as Lean functions, with their contracts: written by a program of this claim over the translation; some contracts are proved by hand. -/
import Derived.Test.YtlppkilencpmeaaQFnTopx0
import Derived.Test.YtlppkilencpmeaaQFnTopx1
import Derived.Test.YtlppkilencpmeaaQFnTopx2
import Derived.Test.YtlppkilencpmeaaQFnTopx3
import Derived.Test.YtlppkilencpmeaaQFnTopx4
import Derived.Test.YtlppkilencpmeaaQFnTopx5
import Derived.Test.YtlppkilencpmeaaQFnTopx6
import Derived.Test.YtlppkilencpmeaaQFnTopx7
import Derived.Test.YtlppkilencpmeaaQFnTopx8
import Derived.Test.YtlppkilencpmeaaQFnTopx9
import Derived.Test.YtlppkilencpmeaaQFnTopx10
import Derived.Test.YtlppkilencpmeaaQFnTopx11
import Derived.Test.YtlppkilencpmeaaQFnTopx12
import Derived.Test.YtlppkilencpmeaaQFnTopx13
namespace Go.Proofs.Ytlppkilencpmeaa.QFnTop
open Go.RowKit Go.Proofs.Ytlppkilencpmeaa.Gl Go.Proofs.YtlppkilencpmeaaW.PrintWords Go.Proofs.YtlppkilencpmeaaW.PrintLast Go.Proofs.YtlppkilencpmeaaW.PrintMore
attribute [local go_sem] max2_int min2_int max_two min_two max_three min_three max_four min_four   -- for this text's walks alone
set_option linter.unusedVariables false
set_option linter.unusedSimpArgs false

end Go.Proofs.Ytlppkilencpmeaa.QFnTop
