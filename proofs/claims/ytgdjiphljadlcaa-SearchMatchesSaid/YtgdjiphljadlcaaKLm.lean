/- A part of the plain laws of the search (layer 47); no condition. -/
import Derived.Test.YtgdjiphljadlcaaKQd
import Derived.Test.YtgdjiphljadlcaaKQh
import Derived.Test.YtgdjiphljadlcaaKRd
import Derived.Test.YtgdjiphljadlcaaK0
import Derived.Test.YtgdjiphljadlcaaK25
namespace Go.Proofs.Ytgdjiphljadlcaa.K
open Go.RowKit Go.Proofs.YtgdjiphljadlcaaW.PrintWords Go.Proofs.YtgdjiphljadlcaaW.PrintLast Go.Proofs.YtgdjiphljadlcaaW.PrintMore
set_option linter.unusedSimpArgs false
theorem matches_pure (A : List S50) (l : List S46) (pl : List Int) : ∃ k, signalbenchlaw47_SearchMatches.f k A l pl = some true := by
  refine Ev.rounds (g := fun k => signalbenchlaw47_SearchMatches.f k A l pl) ?_
  unfold signalbenchlaw47_SearchMatches.f
  by_cases c : (l.length : Int) > 300
  · simp only [if_pos c]
    exact awake_ev
  · simp only [if_neg c]
    refine (matches_ev A l pl (by omega)).bind ?_
    refine (rmatches_ev A l pl (by omega)).bind ?_
    simp only [beq_self_eq_true, if_true]
    exact awake_ev
end Go.Proofs.Ytgdjiphljadlcaa.K
