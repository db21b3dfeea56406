/- A part of the plain laws of the search (layer 47); no condition. -/
import Derived.Test.YtgdjiphljadlcaaKQa
import Derived.Test.YtgdjiphljadlcaaKQb
import Derived.Test.YtgdjiphljadlcaaK0
import Derived.Test.YtgdjiphljadlcaaK8
import Derived.Test.YtgdjiphljadlcaaK9
namespace Go.Proofs.Ytgdjiphljadlcaa.K
open Go.RowKit Go.Proofs.YtgdjiphljadlcaaW.PrintWords Go.Proofs.YtgdjiphljadlcaaW.PrintLast Go.Proofs.YtgdjiphljadlcaaW.PrintMore
set_option linter.unusedSimpArgs false
theorem rd46 (xs : List S46) (i : Nat) (h : i < xs.length) : rd_T46 xs (i : Int) = xs[i] := by
  simp only [rd_T46, Int.toNat_natCast]
  rw [List.getD_eq_getElem?_getD, List.getElem?_eq_getElem h, Option.getD_some]
/-- does an out satisfy a condition? -/
def sat (c : S42) (o : S46) : Bool := decide (0 ≤ o.f1 ∧ o.f1 ≤ 1099511627776) && holdB c.f0 c.f1 c.f2 c.f3 c.f4 o.f0 o.f2.f0 o.f2.f1 o.f2.f2 o.f2.f3 o.f2.f4 o.f2.f5 o.f2.f6
theorem sat_ev (c : S42) (o : S46) : Ev (fun k => search_satisfies.f k c.f0 c.f1 c.f2 c.f3 c.f4 o.f0 o.f1 o.f2.f0 o.f2.f1 o.f2.f2 o.f2.f3 o.f2.f4 o.f2.f5 o.f2.f6) (sat c o) := by
  unfold search_satisfies.f sat
  by_cases h1 : o.f1 ≥ 0
  · simp only [if_pos h1]
    by_cases h2 : o.f1 ≤ 1099511627776
    · simp only [if_pos h2, decide_eq_true (And.intro h1 h2 : 0 ≤ o.f1 ∧ o.f1 ≤ 1099511627776), Bool.true_and]
      exact (holds_ev _ _ _ _ _ _ _ _ _ _ _ _ _ _).bind (Ev.now _)
    · simp only [if_neg h2]
      rw [decide_eq_false (by omega), Bool.false_and]
      exact Ev.now _
  · simp only [if_neg h1]
    rw [decide_eq_false (by omega), Bool.false_and]
    exact Ev.now _
/-- does an out end what a step waits for? -/
def forb (s : S50) (o : S46) : Bool := s.f2 && sat s.f3 o
theorem forb_ev (s : S50) (o : S46) : Ev (fun k => search_forbids.f k s.f0.f0 s.f0.f1 s.f0.f2 s.f0.f3 s.f0.f4 s.f1 s.f2 s.f3.f0 s.f3.f1 s.f3.f2 s.f3.f3 s.f3.f4 o.f0 o.f1 o.f2.f0 o.f2.f1 o.f2.f2 o.f2.f3 o.f2.f4 o.f2.f5 o.f2.f6) (forb s o) := by
  unfold search_forbids.f forb
  by_cases h : s.f2 = true
  · simp only [h, if_true, Bool.true_and]
    exact (sat_ev _ _).bind (Ev.now _)
  · have h' : s.f2 = false := by simpa using h
    simp only [h', Bool.false_eq_true, if_false, Bool.false_and]
    exact Ev.now _
def clear_ (s : S50) (l : List S46) : Bool := l.all fun o => !forb s o
theorem wr_nat {n : Nat} (h : n ≤ 1000000) : wrap64 ((n : Int) + 1) = ((n + 1 : Nat) : Int) := by rw [wr_in (by omega)]; omega
theorem clear_ev (s : S50) (xs : List S46) (hx : xs.length ≤ 1000000) :
    Ev (fun k => search_follows.l0 k xs (xs.length : Int) 0 s.f0.f0 s.f0.f1 s.f0.f2 s.f0.f3 s.f0.f4 s.f1 s.f2 s.f3.f0 s.f3.f1 s.f3.f2 s.f3.f3 s.f3.f4) (clear_ s xs) := by
  have := ev_drop xs (fun k i => search_follows.l0 k xs (xs.length : Int) i s.f0.f0 s.f0.f1 s.f0.f2 s.f0.f3 s.f0.f4 s.f1 s.f2 s.f3.f0 s.f3.f1 s.f3.f2 s.f3.f3 s.f3.f4) (fun l _ => clear_ s l) ?_ ?_ xs.length 0 (by omega)
  · simpa using this
  · refine Ev.le 1 fun k => ?_
    simp only [search_follows.l0]
    rw [if_neg (by omega)]
    rfl
  · intro i hi ih
    refine Ev.step (f := fun k => (search_forbids.f k s.f0.f0 s.f0.f1 s.f0.f2 s.f0.f3 s.f0.f4 s.f1 s.f2 s.f3.f0 s.f3.f1 s.f3.f2 s.f3.f3 s.f3.f4 xs[i].f0 xs[i].f1 xs[i].f2.f0 xs[i].f2.f1 xs[i].f2.f2 xs[i].f2.f3 xs[i].f2.f4 xs[i].f2.f5 xs[i].f2.f6).bind fun t => if t = true then some false else search_follows.l0 k xs (xs.length : Int) ((i + 1 : Nat) : Int) s.f0.f0 s.f0.f1 s.f0.f2 s.f0.f3 s.f0.f4 s.f1 s.f2 s.f3.f0 s.f3.f1 s.f3.f2 s.f3.f3 s.f3.f4) (fun k => ?_) ?_
    · simp only [search_follows.l0, rd46 xs i hi, wr_nat (show i ≤ 1000000 by omega)]
      rw [if_pos (by omega), if_pos (by omega), if_pos (by omega)]
    · refine (forb_ev s xs[i]).bind ?_
      simp only [clear_, List.all_cons] at ih ⊢
      by_cases c : forb s xs[i] = true
      · simp only [c, if_true, Bool.not_true, Bool.false_and]
        exact Ev.now _
      · have c' : forb s xs[i] = false := by simpa using c
        simp only [c', Bool.false_eq_true, if_false, Bool.not_false, Bool.true_and]
        exact ih
/-- is the time between two outs none too long for a step? -/
def within (s : S50) (l : List S46) (b a : Int) : Bool := decide (s.f1 = 0) || !decide (wrap64 ((rd_T46 l a).f1 - (rd_T46 l b).f1) > s.f1)
def fol (s : S50) (l : List S46) (b a : Nat) : Bool := decide (b < a) && within s l b a && clear_ s ((l.take a).drop (b + 1))
theorem fol_j0 (s : S50) (l : List S46) (hl : l.length ≤ 1000000) (b a : Nat) (ha : a < l.length) (t : Bool) (hb : b < a ∨ t = true) :
    Ev (fun k => search_follows.j0 k l b a t s.f0.f0 s.f0.f1 s.f0.f2 s.f0.f3 s.f0.f4 s.f1 s.f2 s.f3.f0 s.f3.f1 s.f3.f2 s.f3.f3 s.f3.f4) (!t && clear_ s ((l.take a).drop (b + 1))) := by
  cases t
  · have hb' : b < a := by simpa using hb
    refine Ev.step (f := fun k => search_follows.l0 k ((l.take a).drop (b + 1)) (((l.take a).drop (b + 1)).length : Int) 0 s.f0.f0 s.f0.f1 s.f0.f2 s.f0.f3 s.f0.f4 s.f1 s.f2 s.f3.f0 s.f3.f1 s.f3.f2 s.f3.f3 s.f3.f4) (fun k => ?_) ?_
    · simp only [search_follows.j0, Bool.false_eq_true, if_false, wr_nat (show b ≤ 1000000 by omega), Int.toNat_natCast, Option.bind_some]
      rw [if_pos (by omega), if_pos (by omega), if_pos (by omega)]
    · simp only [Bool.not_false, Bool.true_and]
      refine clear_ev s _ ?_
      rw [List.length_drop, List.length_take]
      omega
  · refine Ev.le 1 fun k => ?_
    simp only [search_follows.j0, if_true, Bool.not_true, Bool.false_and]
theorem fol_ev (s : S50) (l : List S46) (hl : l.length ≤ 1000000) (b a : Nat) (hb : b < l.length) (ha : a < l.length) :
    Ev (fun k => search_follows.f k s.f0.f0 s.f0.f1 s.f0.f2 s.f0.f3 s.f0.f4 s.f1 s.f2 s.f3.f0 s.f3.f1 s.f3.f2 s.f3.f3 s.f3.f4 l b a) (fol s l b a) := by
  unfold search_follows.f fol within
  by_cases h1 : (b : Int) ≥ (a : Int)
  · simp only [if_pos h1]
    rw [decide_eq_false (by omega), Bool.false_and, Bool.false_and]
    simpa using fol_j0 s l hl b a ha true (Or.inr rfl)
  · simp only [if_neg h1]
    have hlt : b < a := by omega
    rw [decide_eq_true hlt, Bool.true_and]
    by_cases h2 : s.f1 = 0
    · simp only [if_pos h2]
      rw [decide_eq_true h2, Bool.true_or, Bool.true_and]
      simpa [h2] using fol_j0 s l hl b a ha false (Or.inl hlt)
    · simp only [if_neg h2]
      rw [decide_eq_false h2, Bool.false_or]
      simp only [if_pos (show (0 : Int) ≤ (a : Int) by omega), if_pos (show (a : Int) < (l.length : Int) by omega), if_pos (show (0 : Int) ≤ (b : Int) by omega), if_pos (show (b : Int) < (l.length : Int) by omega)]
      exact fol_j0 s l hl b a ha _ (Or.inl hlt)
theorem drop_cons_ {l : List S46} {a i : Nat} (ha : a ≤ l.length) (hi : i < a) : (l.take a).drop i = l[i] :: (l.take a).drop (i + 1) := by
  rw [List.drop_eq_getElem_cons (by rw [List.length_take]; omega), List.getElem_take]
end Go.Proofs.Ytgdjiphljadlcaa.K
