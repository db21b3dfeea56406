/- The law on checks returns true; plain law over the printed functions, no condition. -/
import Derived.Test.YtgdjiphljadlcaaHRb
import Derived.Test.YtgdjiphljadlcaaH34
namespace Go.Proofs.Ytgdjiphljadlcaa.H
open Go.RowKit Go.Proofs.YtgdjiphljadlcaaW.PrintWords Go.Proofs.YtgdjiphljadlcaaW.PrintLast Go.Proofs.YtgdjiphljadlcaaW.PrintMore
set_option linter.unusedSimpArgs false
theorem awake_true : signalbenchlaw44_awake.f = some true := rfl
theorem checks_pure (xs : List S50) : ∃ k, signalbenchlaw44_TrigautoChecks.f k xs = some true := by
  refine Ev.rounds ?_
  unfold signalbenchlaw44_TrigautoChecks.f
  refine (check_ev xs).bind ?_
  refine (rcheck_ev xs).bind ?_
  simp only [if_true, trigauto_Memory.f, awake_true, Option.bind_some]
  exact Ev.now _
end Go.Proofs.Ytgdjiphljadlcaa.H
