/- A part of the plain laws of the search (layer 47); no condition. -/
import Derived.Test.YtgdjiphljadlcaaKQa
import Derived.Test.YtgdjiphljadlcaaKQb
import Derived.Test.YtgdjiphljadlcaaKRa
import Derived.Test.YtgdjiphljadlcaaK0
import Derived.Test.YtgdjiphljadlcaaK16
import Derived.Test.YtgdjiphljadlcaaK17
import Derived.Test.YtgdjiphljadlcaaK18
namespace Go.Proofs.Ytgdjiphljadlcaa.K
open Go.RowKit Go.Proofs.YtgdjiphljadlcaaW.PrintWords Go.Proofs.YtgdjiphljadlcaaW.PrintLast Go.Proofs.YtgdjiphljadlcaaW.PrintMore
set_option linter.unusedSimpArgs false
theorem rstep_ev (x : S50) (first : Bool) : Ev (fun k => signalbenchref44_wrongStep.f k x.f0.f0 x.f0.f1 x.f0.f2 x.f0.f3 x.f0.f4 x.f1 x.f2 x.f3.f0 x.f3.f1 x.f3.f2 x.f3.f3 x.f3.f4 first) (sErr x first) := by
  unfold signalbenchref44_wrongStep.f
  refine (rcond_ev _ _ _ _ _).bind ?_
  unfold sErr
  by_cases c1 : cErr x.f0.f0 x.f0.f1 x.f0.f2 x.f0.f3 x.f0.f4 = 0
  · simp only [if_pos c1]
    have key : ∀ b, Ev (fun k => signalbenchref44_wrongStep.j0 k first b x.f0.f0 x.f0.f1 x.f0.f2 x.f0.f3 x.f0.f4 x.f1 x.f2 x.f3.f0 x.f3.f1 x.f3.f2 x.f3.f3 x.f3.f4) (if b = true then 1 else if x.f2 = true then
      if cErr x.f3.f0 x.f3.f1 x.f3.f2 x.f3.f3 x.f3.f4 = 0 then (if first = true then 1 else 0) else cErr x.f3.f0 x.f3.f1 x.f3.f2 x.f3.f3 x.f3.f4
      else if ¬ (x.f3.f0 = 0 ∧ x.f3.f1 = 0 ∧ x.f3.f2 = 0 ∧ x.f3.f3 = 0 ∧ x.f3.f4 = 0) then 1 else if first = true ∧ x.f1 ≠ 0 then 1 else 0) := by
      intro b
      by_cases hb : b = true
      · refine Ev.le 1 fun k => ?_
        simp only [signalbenchref44_wrongStep.j0, if_pos hb]
      · simp only [if_neg hb]
        by_cases hu : x.f2 = true
        · simp only [if_pos hu]
          refine Ev.step (f := fun k => (signalbenchref44_wrong.f k x.f3.f0 x.f3.f1 x.f3.f2 x.f3.f3 x.f3.f4).bind fun t => if t = 0 then (some (if first = true then 1 else 0)) else some t) (fun k => ?_) ?_
          · simp only [signalbenchref44_wrongStep.j0, if_neg hb, if_pos hu, ite_self, ite_some]
          · refine (rcond_ev _ _ _ _ _).bind (Ev.some_ fun _ => ?_)
            rw [ite_some]
        · simp only [if_neg hu]
          refine Ev.le 1 fun k => ?_
          simp only [signalbenchref44_wrongStep.j0, if_neg hb, if_neg hu, nz5]
          by_cases hz : x.f3.f0 = 0 ∧ x.f3.f1 = 0 ∧ x.f3.f2 = 0 ∧ x.f3.f3 = 0 ∧ x.f3.f4 = 0
          · rw [if_neg (not_not_intro hz), if_neg (not_not_intro hz)]
            cases first
            · simp
            · by_cases hw : x.f1 = 0
              · simp [hw]
              · simp [hw]
          · rw [if_pos hz, if_pos hz]
    by_cases c2 : x.f1 < 0
    · simp only [if_pos c2, if_pos (show x.f1 < 0 ∨ x.f1 > 1099511627776 from Or.inl c2)]
      simpa using key true
    · simp only [if_neg c2]
      by_cases c3 : x.f1 > 1099511627776
      · simp only [if_pos (show x.f1 < 0 ∨ x.f1 > 1099511627776 from Or.inr c3), decide_eq_true c3]
        simpa using key true
      · simp only [if_neg (show ¬ (x.f1 < 0 ∨ x.f1 > 1099511627776) by omega), decide_eq_false c3]
        simpa only [Bool.false_eq_true, if_false] using key false
  · simp only [if_neg c1]
    exact Ev.now _
theorem rcheck_ev (xs : List S50) : Ev (fun k => signalbenchref44_Check.f k xs) (chkErr xs) := by
  unfold signalbenchref44_Check.f chkErr
  by_cases c1 : (xs.length : Int) = 0
  · simp only [if_pos c1]
    exact Ev.now _
  · simp only [if_neg c1]
    by_cases c2 : (xs.length : Int) > 32
    · simp only [if_pos c2]
      exact Ev.now _
    · simp only [if_neg c2]
      have := ev_drop xs (fun k i => signalbenchref44_Check.l0 k i xs) (fun l i => goErr l (i == 0)) ?_ ?_ xs.length 0 (by omega)
      · simpa using this
      · refine Ev.le 1 fun k => ?_
        simp only [signalbenchref44_Check.l0]
        rw [if_neg (by omega)]
        rfl
      · intro i hi ih
        have e1 : ((i : Int) == 0) = (i == 0) := by rw [Bool.eq_iff_iff]; simp
        have e2 : wrap64 ((i : Int) + 1) = ((i + 1 : Nat) : Int) := by rw [wr_in (by omega)]; omega
        refine Ev.step (f := fun k => (signalbenchref44_wrongStep.f k xs[i].f0.f0 xs[i].f0.f1 xs[i].f0.f2 xs[i].f0.f3 xs[i].f0.f4 xs[i].f1 xs[i].f2 xs[i].f3.f0 xs[i].f3.f1 xs[i].f3.f2 xs[i].f3.f3 xs[i].f3.f4 (i == 0)).bind fun t => if t = 0 then signalbenchref44_Check.l0 k ((i + 1 : Nat) : Int) xs else some t) (fun k => ?_) ?_
        · simp only [signalbenchref44_Check.l0, rd50 xs i hi, e1, e2]
          rw [if_pos (by omega), if_pos (by omega)]
        · refine (rstep_ev xs[i] (i == 0)).bind ?_
          simp only [goErr]
          by_cases c : sErr xs[i] (i == 0) = 0
          · simp only [if_pos c]
            exact ih
          · simp only [if_neg c]
            exact Ev.now _
end Go.Proofs.Ytgdjiphljadlcaa.K
