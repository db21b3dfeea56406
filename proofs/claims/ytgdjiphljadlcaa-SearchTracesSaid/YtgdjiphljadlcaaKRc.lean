/- A part of the plain laws of the search (layer 47); no condition. -/
import Derived.Test.YtgdjiphljadlcaaKQa
import Derived.Test.YtgdjiphljadlcaaKQb
import Derived.Test.YtgdjiphljadlcaaKQc
import Derived.Test.YtgdjiphljadlcaaKRa
import Derived.Test.YtgdjiphljadlcaaK0
import Derived.Test.YtgdjiphljadlcaaK22
import Derived.Test.YtgdjiphljadlcaaK23
namespace Go.Proofs.Ytgdjiphljadlcaa.K
open Go.RowKit Go.Proofs.YtgdjiphljadlcaaW.PrintWords Go.Proofs.YtgdjiphljadlcaaW.PrintLast Go.Proofs.YtgdjiphljadlcaaW.PrintMore
set_option linter.unusedSimpArgs false
theorem rsat_ev (c : S42) (o : S46) : Ev (fun k => signalbenchref47_satisfies.f k c.f0 c.f1 c.f2 c.f3 c.f4 o.f0 o.f1 o.f2.f0 o.f2.f1 o.f2.f2 o.f2.f3 o.f2.f4 o.f2.f5 o.f2.f6) (sat c o) := by
  unfold signalbenchref47_satisfies.f sat
  by_cases h1 : o.f1 ≥ 0
  · simp only [if_pos h1]
    by_cases h2 : o.f1 ≤ 1099511627776
    · simp only [if_pos h2, decide_eq_true (And.intro h1 h2 : 0 ≤ o.f1 ∧ o.f1 ≤ 1099511627776), Bool.true_and]
      exact (rholds_ev _ _ _ _ _ _ _ _ _ _ _ _ _ _).bind (Ev.now _)
    · simp only [if_neg h2]
      rw [decide_eq_false (by omega), Bool.false_and]
      exact Ev.now _
  · simp only [if_neg h1]
    rw [decide_eq_false (by omega), Bool.false_and]
    exact Ev.now _
theorem rclear_ev (s : S50) (l : List S46) (hl : l.length ≤ 1000000) (hs : s.f2 = true) (a : Nat) (ha : a ≤ l.length) : ∀ d i, i + d = a →
    Ev (fun k => signalbenchref47_follows.l0 k l a i s.f0.f0 s.f0.f1 s.f0.f2 s.f0.f3 s.f0.f4 s.f1 s.f2 s.f3.f0 s.f3.f1 s.f3.f2 s.f3.f3 s.f3.f4) (clear_ s ((l.take a).drop i)) := by
  intro d
  induction d with
  | zero =>
    intro i hi
    obtain rfl : i = a := by omega
    rw [List.drop_eq_nil_of_le (by rw [List.length_take]; omega)]
    refine Ev.le 1 fun k => ?_
    simp only [signalbenchref47_follows.l0]
    rw [if_neg (by omega)]
    rfl
  | succ d ih =>
    intro i hi
    have hlt : i < l.length := by omega
    rw [drop_cons_ ha (by omega)]
    refine Ev.step (f := fun k => (signalbenchref47_satisfies.f k s.f3.f0 s.f3.f1 s.f3.f2 s.f3.f3 s.f3.f4 l[i].f0 l[i].f1 l[i].f2.f0 l[i].f2.f1 l[i].f2.f2 l[i].f2.f3 l[i].f2.f4 l[i].f2.f5 l[i].f2.f6).bind fun t => if t = true then some false else signalbenchref47_follows.l0 k l a ((i + 1 : Nat) : Int) s.f0.f0 s.f0.f1 s.f0.f2 s.f0.f3 s.f0.f4 s.f1 s.f2 s.f3.f0 s.f3.f1 s.f3.f2 s.f3.f3 s.f3.f4) (fun k => ?_) ?_
    · simp only [signalbenchref47_follows.l0, rd46 l i hlt, wr_nat (show i ≤ 1000000 by omega)]
      rw [if_pos (by omega), if_pos (by omega), if_pos (by omega)]
    · refine (rsat_ev s.f3 l[i]).bind ?_
      have ih' := ih (i + 1) (by omega)
      simp only [clear_, List.all_cons, forb, hs, Bool.true_and] at ih' ⊢
      by_cases c : sat s.f3 l[i] = true
      · simp only [c, if_true, Bool.not_true, Bool.false_and]
        exact Ev.now _
      · have c' : sat s.f3 l[i] = false := by simpa using c
        simp only [c', Bool.false_eq_true, if_false, Bool.not_false, Bool.true_and]
        exact ih'
theorem rfol_j0 (s : S50) (l : List S46) (hl : l.length ≤ 1000000) (b a : Nat) (ha : a < l.length) (hb : b < a) (t : Bool) :
    Ev (fun k => signalbenchref47_follows.j0 k l b a t s.f0.f0 s.f0.f1 s.f0.f2 s.f0.f3 s.f0.f4 s.f1 s.f2 s.f3.f0 s.f3.f1 s.f3.f2 s.f3.f3 s.f3.f4) (!t && clear_ s ((l.take a).drop (b + 1))) := by
  cases t
  · by_cases c : s.f2 = true
    · refine Ev.step (f := fun k => signalbenchref47_follows.l0 k l a ((b + 1 : Nat) : Int) s.f0.f0 s.f0.f1 s.f0.f2 s.f0.f3 s.f0.f4 s.f1 s.f2 s.f3.f0 s.f3.f1 s.f3.f2 s.f3.f3 s.f3.f4) (fun k => ?_) ?_
      · simp only [signalbenchref47_follows.j0, Bool.false_eq_true, if_false, wr_nat (show b ≤ 1000000 by omega)]
        rw [if_pos c]
      · simp only [Bool.not_false, Bool.true_and]
        exact rclear_ev s l hl c a (by omega) (a - (b + 1)) (b + 1) (by omega)
    · refine Ev.le 1 fun k => ?_
      simp only [signalbenchref47_follows.j0, Bool.false_eq_true, if_false, Bool.not_false, Bool.true_and]
      rw [if_neg c]
      have c' : s.f2 = false := by simpa using c
      congr 1
      unfold clear_
      symm
      rw [List.all_eq_true]
      intro o _
      simp [forb, c']
  · refine Ev.le 1 fun k => ?_
    simp only [signalbenchref47_follows.j0, if_true, Bool.not_true, Bool.false_and]
theorem rfol_ev (A : List S50) (j : Nat) (hj : j < A.length) (l : List S46) (hl : l.length ≤ 1000000) (b a : Nat) (hb : b < a) (ha : a < l.length) :
    Ev (fun k => signalbenchref47_follows.f k A l j b a) (fol A[j] l b a) := by
  unfold signalbenchref47_follows.f fol within
  simp only [rd50 A j hj]
  simp only [if_pos (show (0 : Int) ≤ (j : Int) by omega), if_pos (show (j : Int) < (A.length : Int) by omega)]
  rw [decide_eq_true hb, Bool.true_and]
  by_cases h2 : A[j].f1 = 0
  · rw [decide_eq_true h2, Bool.true_or, Bool.true_and]
    simpa [h2] using rfol_j0 A[j] l hl b a ha hb false
  · simp only [if_neg h2]
    rw [decide_eq_false h2, Bool.false_or]
    simp only [if_pos (show (0 : Int) ≤ (a : Int) by omega), if_pos (show (a : Int) < (l.length : Int) by omega), if_pos (show (0 : Int) ≤ (b : Int) by omega), if_pos (show (b : Int) < (l.length : Int) by omega)]
    exact rfol_j0 A[j] l hl b a ha hb _
end Go.Proofs.Ytgdjiphljadlcaa.K
