/- NewDesk: the law comes to true: with so many rounds all is computed. -/
import Derived.Test.YtfejagkphjpehaaQFnExactNewDeskx4
namespace Go.Proofs.Ytfejagkphjpehaa.Pure
open Go.RowKit Go.Proofs.Ytfejagkphjpehaa.QFnExactNewDesk Go.Proofs.YtfejagkphjpehaaW.PrintWords Go.Proofs.YtfejagkphjpehaaW.PrintLast
set_option maxRecDepth 100000 in
theorem FnExactNewDesk : laws_FnExactNewDesk.Pure := ⟨40, by kernel_rfl⟩
end Go.Proofs.Ytfejagkphjpehaa.Pure
