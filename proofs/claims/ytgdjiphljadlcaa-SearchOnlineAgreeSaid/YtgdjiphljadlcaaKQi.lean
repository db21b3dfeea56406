/- A part of the plain laws of the search (layer 47); no condition. -/
import Derived.Test.YtgdjiphljadlcaaKQa
import Derived.Test.YtgdjiphljadlcaaKQc
import Derived.Test.YtgdjiphljadlcaaKQd
import Derived.Test.YtgdjiphljadlcaaKQh
import Derived.Test.YtgdjiphljadlcaaK0
import Derived.Test.YtgdjiphljadlcaaK33
namespace Go.Proofs.Ytgdjiphljadlcaa.K
open Go.RowKit Go.Proofs.YtgdjiphljadlcaaW.PrintWords Go.Proofs.YtgdjiphljadlcaaW.PrintLast Go.Proofs.YtgdjiphljadlcaaW.PrintMore
set_option linter.unusedSimpArgs false
theorem asc_l0 (l : List S46) (hl : l.length ≤ 1000000) : ∀ d i, i + d = l.length → Ev (fun k => signalbenchlaw47_ascending.l0 k l i) (ascB l d i) := by
  intro d
  induction d with
  | zero =>
    intro i hi
    refine Ev.le 1 fun k => ?_
    simp only [signalbenchlaw47_ascending.l0]
    rw [if_neg (by omega)]
    rfl
  | succ d ih =>
    intro i hi
    have ih' := ih (i + 1) (by omega)
    have hw := wr_nat (show i ≤ 1000000 by omega)
    rw [ascB]
    by_cases c : 0 ≤ (rd_T46 l i).f1 ∧ (rd_T46 l i).f1 ≤ 1099511627776 ∧ (i = 0 ∨ (rd_T46 l ((i - 1 : Nat) : Int)).f1 ≤ (rd_T46 l i).f1)
    · rw [decide_eq_true c, Bool.true_and]
      refine Ev.step (fun k => ?_) ih'
      simp only [signalbenchlaw47_ascending.l0, hw]
      rw [if_pos (by omega), if_pos (by omega), if_neg (by omega), if_neg (by omega)]
      by_cases c0 : i = 0
      · rw [if_neg (by omega)]
      · rw [if_pos (by omega), wr_pred (show 0 < i by omega) (show i ≤ 1000000 by omega), if_pos (by omega), if_pos (by omega), if_neg (by omega)]
    · rw [decide_eq_false c, Bool.false_and]
      refine Ev.le 1 fun k => ?_
      simp only [signalbenchlaw47_ascending.l0, hw]
      rw [if_pos (by omega), if_pos (by omega)]
      by_cases c1 : (rd_T46 l i).f1 < 0
      · rw [if_pos c1]
      rw [if_neg c1]
      by_cases c2 : (rd_T46 l i).f1 > 1099511627776
      · rw [if_pos c2]
      rw [if_neg c2, if_pos (by omega), wr_pred (show 0 < i by omega) (show i ≤ 1000000 by omega), if_pos (by omega), if_pos (by omega), if_pos (by omega)]
theorem asc_ev (l : List S46) : Ev (fun k => signalbenchlaw47_ascending.f k l 200) (ascL l) := by
  unfold signalbenchlaw47_ascending.f ascL
  by_cases c : (l.length : Int) > 200
  · simp only [if_pos c]
    rw [decide_eq_false (by omega), Bool.false_and]
    exact Ev.now _
  · simp only [if_neg c]
    rw [decide_eq_true (by omega), Bool.true_and]
    exact asc_l0 l (by omega) l.length 0 (by omega)
end Go.Proofs.Ytgdjiphljadlcaa.K
