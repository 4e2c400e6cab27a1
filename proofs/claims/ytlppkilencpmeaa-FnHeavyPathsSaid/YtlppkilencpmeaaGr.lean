/- Growing orders: the nodes that can come next. Plain mathematics, no program in sight. -/
import Derived.Test.YtlppkilencpmeaaNd
namespace Go.Proofs.Ytlppkilencpmeaa.Tr
open Go.RowKit Go.Proofs.YtlppkilencpmeaaW.PrintWords
set_option linter.unusedSimpArgs false
set_option linter.unusedVariables false

/-- The numbers 0 to m - 1. -/
def upto (m : Nat) : List Int := each m (fun v => (v : Int))
end Go.Proofs.Ytlppkilencpmeaa.Tr
