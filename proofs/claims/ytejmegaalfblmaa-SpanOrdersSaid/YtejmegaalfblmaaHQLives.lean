/- The document's example holds; no condition. -/
import Derived.Test.YtejmegaalfblmaaHQBase
import Derived.Test.YtejmegaalfblmaaH4
namespace Go.Proofs.Ytejmegaalfblmaa.H
open Go.RowKit Go.Proofs.YtejmegaalfblmaaW.PrintWords Go.Proofs.YtejmegaalfblmaaW.PrintLast Go.Proofs.YtejmegaalfblmaaW.PrintMore
set_option linter.unusedSimpArgs false
theorem lives_f : signalbenchlaw06_lives.f = some true := by kernel_rfl
end Go.Proofs.Ytejmegaalfblmaa.H
