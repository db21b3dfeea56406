/- A part of the plain laws of the search (layer 47); no condition. -/
import Derived.Test.YtgdjiphljadlcaaKQf
import Derived.Test.YtgdjiphljadlcaaKQh
import Derived.Test.YtgdjiphljadlcaaKRf
import Derived.Test.YtgdjiphljadlcaaK0
import Derived.Test.YtgdjiphljadlcaaK27
namespace Go.Proofs.Ytgdjiphljadlcaa.K
open Go.RowKit Go.Proofs.YtgdjiphljadlcaaW.PrintWords Go.Proofs.YtgdjiphljadlcaaW.PrintLast Go.Proofs.YtgdjiphljadlcaaW.PrintMore
set_option linter.unusedSimpArgs false
theorem finds_pure (A : List S50) (l : List S46) (x : Int) : ∃ k, signalbenchlaw47_SearchFinds.f k A l x = some true := by
  refine Ev.rounds (g := fun k => signalbenchlaw47_SearchFinds.f k A l x) ?_
  unfold signalbenchlaw47_SearchFinds.f
  by_cases c : (l.length : Int) > 200
  · simp only [if_pos c]
    exact awake_ev
  · simp only [if_neg c]
    have hl : l.length ≤ 1000000 := by omega
    refine (all_ev A l hl).bind ?_
    refine (rall_ev A l hl).bind ?_
    refine (ints_ev _ (Nat.le_trans (fin_len A l) hl)).bind ?_
    simp only [if_true]
    refine (next_ev A l hl x).bind ?_
    refine (rnext_ev A l hl x).bind ?_
    simp only [if_true]
    exact awake_ev
end Go.Proofs.Ytgdjiphljadlcaa.K
