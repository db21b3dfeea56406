/- A part of the plain laws of the search (layer 47); no condition. -/
import Derived.Test.YtgdjiphljadlcaaKQf
import Derived.Test.YtgdjiphljadlcaaKQg
import Derived.Test.YtgdjiphljadlcaaKQh
import Derived.Test.YtgdjiphljadlcaaKRg
import Derived.Test.YtgdjiphljadlcaaK0
import Derived.Test.YtgdjiphljadlcaaK31
namespace Go.Proofs.Ytgdjiphljadlcaa.K
open Go.RowKit Go.Proofs.YtgdjiphljadlcaaW.PrintWords Go.Proofs.YtgdjiphljadlcaaW.PrintLast Go.Proofs.YtgdjiphljadlcaaW.PrintMore
set_option linter.unusedSimpArgs false
theorem traces_pure (A : List S50) (l : List S46) (x : Int) : ∃ k, signalbenchlaw47_SearchTraces.f k A l x = some true := by
  refine Ev.rounds (g := fun k => signalbenchlaw47_SearchTraces.f k A l x) ?_
  unfold signalbenchlaw47_SearchTraces.f
  by_cases c : (l.length : Int) > 200
  · simp only [if_pos c]
    exact awake_ev
  · simp only [if_neg c]
    have hl : l.length ≤ 1000000 := by omega
    refine (trace_ev A l hl x).bind ?_
    refine (rtrace_ev A l hl x).bind ?_
    simp only [beq_self_eq_true, if_true]
    refine (ints_ev _ (Nat.le_trans (trB_len A l x) (by omega))).bind ?_
    simp only [if_true]
    exact awake_ev
end Go.Proofs.Ytgdjiphljadlcaa.K
