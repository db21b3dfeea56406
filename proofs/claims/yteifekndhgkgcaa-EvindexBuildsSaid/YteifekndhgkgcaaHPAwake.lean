/- The chapter's example holds; no condition. -/
import Derived.Test.YteifekndhgkgcaaHP0
import Derived.Test.YteifekndhgkgcaaH2
namespace Go.Proofs.Yteifekndhgkgcaa.H
open Go.RowKit Go.Proofs.YteifekndhgkgcaaW.PrintWords Go.Proofs.YteifekndhgkgcaaW.PrintLast Go.Proofs.YteifekndhgkgcaaW.PrintMore
set_option linter.unusedSimpArgs false
set_option linter.unusedVariables false
set_option maxRecDepth 100000 in
theorem awake_ev : Ev (fun k => signalbenchlaw46_awake.f k) true := Ev.le 20 (fun k => by kernel_rfl)
end Go.Proofs.Yteifekndhgkgcaa.H
