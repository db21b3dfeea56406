/- A part of the plain laws of the search (layer 47); no condition. -/
import Derived.Test.YtgdjiphljadlcaaKQa
import Derived.Test.YtgdjiphljadlcaaK0
import Derived.Test.YtgdjiphljadlcaaK2
import Derived.Test.YtgdjiphljadlcaaK3
import Derived.Test.YtgdjiphljadlcaaK4
namespace Go.Proofs.Ytgdjiphljadlcaa.K
open Go.RowKit Go.Proofs.YtgdjiphljadlcaaW.PrintWords Go.Proofs.YtgdjiphljadlcaaW.PrintLast Go.Proofs.YtgdjiphljadlcaaW.PrintMore
set_option linter.unusedSimpArgs false
/-- a loop over a list, from a place on -/
theorem ev_drop {α R : Type} (xs : List α) (G : Nat → Int → Option R) (S : List α → Nat → R)
    (h0 : Ev (fun k => G k (xs.length : Int)) (S [] xs.length))
    (h1 : ∀ i (h : i < xs.length), Ev (fun k => G k ((i + 1 : Nat) : Int)) (S (xs.drop (i + 1)) (i + 1)) → Ev (fun k => G k (i : Int)) (S (xs[i] :: xs.drop (i + 1)) i)) :
    ∀ d i, i + d = xs.length → Ev (fun k => G k (i : Int)) (S (xs.drop i) i) := by
  intro d
  induction d with
  | zero =>
    intro i hi
    obtain rfl : i = xs.length := by omega
    rw [List.drop_length]
    exact h0
  | succ d ih =>
    intro i hi
    have hlt : i < xs.length := by omega
    rw [List.drop_eq_getElem_cons hlt]
    exact h1 i hlt (ih (i + 1) (by omega))
theorem rd50 (xs : List S50) (i : Nat) (h : i < xs.length) : rd_T50 xs (i : Int) = xs[i] := by
  simp only [rd_T50, Int.toNat_natCast]
  rw [List.getD_eq_getElem?_getD, List.getElem?_eq_getElem h, Option.getD_some]
theorem nz5 {a b c d e : Int} : ((!(a == 0) || (!(b == 0) || (!(c == 0) || (!(d == 0) || (!(e == 0)))))) = true) ↔ ¬ (a = 0 ∧ b = 0 ∧ c = 0 ∧ d = 0 ∧ e = 0) := by
  simp only [Bool.or_eq_true, Bool.not_eq_true', beq_eq_false_iff_ne, ne_eq]
  omega
/-- the error of a compiled step -/
def sErr (x : S50) (first : Bool) : Int :=
  if cErr x.f0.f0 x.f0.f1 x.f0.f2 x.f0.f3 x.f0.f4 = 0 then
    if x.f1 < 0 ∨ x.f1 > 1099511627776 then 1
    else if x.f2 = true then
      if cErr x.f3.f0 x.f3.f1 x.f3.f2 x.f3.f3 x.f3.f4 = 0 then (if first = true then 1 else 0) else cErr x.f3.f0 x.f3.f1 x.f3.f2 x.f3.f3 x.f3.f4
    else if ¬ (x.f3.f0 = 0 ∧ x.f3.f1 = 0 ∧ x.f3.f2 = 0 ∧ x.f3.f3 = 0 ∧ x.f3.f4 = 0) then 1
    else if first = true ∧ x.f1 ≠ 0 then 1 else 0
  else cErr x.f0.f0 x.f0.f1 x.f0.f2 x.f0.f3 x.f0.f4
theorem step_ev (x : S50) (first : Bool) : Ev (fun k => trigauto_step.f k x.f0.f0 x.f0.f1 x.f0.f2 x.f0.f3 x.f0.f4 x.f1 x.f2 x.f3.f0 x.f3.f1 x.f3.f2 x.f3.f3 x.f3.f4 first) (sErr x first) := by
  unfold trigauto_step.f
  refine (cond_ev _ _ _ _ _).bind ?_
  unfold sErr
  by_cases c1 : cErr x.f0.f0 x.f0.f1 x.f0.f2 x.f0.f3 x.f0.f4 = 0
  · simp only [if_pos c1]
    have key : ∀ b, Ev (fun k => trigauto_step.j0 k first b x.f0.f0 x.f0.f1 x.f0.f2 x.f0.f3 x.f0.f4 x.f1 x.f2 x.f3.f0 x.f3.f1 x.f3.f2 x.f3.f3 x.f3.f4) (if b = true then 1 else if x.f2 = true then
      if cErr x.f3.f0 x.f3.f1 x.f3.f2 x.f3.f3 x.f3.f4 = 0 then (if first = true then 1 else 0) else cErr x.f3.f0 x.f3.f1 x.f3.f2 x.f3.f3 x.f3.f4
      else if ¬ (x.f3.f0 = 0 ∧ x.f3.f1 = 0 ∧ x.f3.f2 = 0 ∧ x.f3.f3 = 0 ∧ x.f3.f4 = 0) then 1 else if first = true ∧ x.f1 ≠ 0 then 1 else 0) := by
      intro b
      by_cases hb : b = true
      · refine Ev.le 1 fun k => ?_
        simp only [trigauto_step.j0, if_pos hb]
      · simp only [if_neg hb]
        by_cases hu : x.f2 = true
        · simp only [if_pos hu]
          refine Ev.step (f := fun k => (trigauto_cond.f k x.f3.f0 x.f3.f1 x.f3.f2 x.f3.f3 x.f3.f4).bind fun t => if t = 0 then (some (if first = true then 1 else 0)) else some t) (fun k => ?_) ?_
          · simp only [trigauto_step.j0, if_neg hb, if_pos hu, ite_self, ite_some]
          · refine (cond_ev _ _ _ _ _).bind (Ev.some_ fun _ => ?_)
            rw [ite_some]
        · simp only [if_neg hu]
          refine Ev.le 1 fun k => ?_
          simp only [trigauto_step.j0, if_neg hb, if_neg hu, nz5]
          by_cases hz : x.f3.f0 = 0 ∧ x.f3.f1 = 0 ∧ x.f3.f2 = 0 ∧ x.f3.f3 = 0 ∧ x.f3.f4 = 0
          · rw [if_neg (not_not_intro hz), if_neg (not_not_intro hz)]
            cases first
            · simp
            · by_cases hw : x.f1 = 0
              · simp [hw]
              · simp [hw]
          · rw [if_pos hz, if_pos hz]
    by_cases c2 : x.f1 < 0
    · simp only [if_pos c2, if_pos (show x.f1 < 0 ∨ x.f1 > 1099511627776 from Or.inl c2)]
      simpa using key true
    · simp only [if_neg c2]
      by_cases c3 : x.f1 > 1099511627776
      · simp only [if_pos (show x.f1 < 0 ∨ x.f1 > 1099511627776 from Or.inr c3), decide_eq_true c3]
        simpa using key true
      · simp only [if_neg (show ¬ (x.f1 < 0 ∨ x.f1 > 1099511627776) by omega), decide_eq_false c3]
        simpa only [Bool.false_eq_true, if_false] using key false
  · simp only [if_neg c1]
    exact Ev.now _
/-- the first error of steps -/
def goErr : List S50 → Bool → Int
  | [], _ => 0
  | x :: l, first => if sErr x first = 0 then goErr l false else sErr x first
def chkErr (xs : List S50) : Int := if (xs.length : Int) = 0 then 1 else if (xs.length : Int) > 32 then 6 else goErr xs true
theorem check_ev (xs : List S50) : Ev (fun k => trigauto_Check.f k xs) (chkErr xs) := by
  unfold trigauto_Check.f chkErr
  by_cases c1 : (xs.length : Int) = 0
  · simp only [if_pos c1]
    exact Ev.now _
  · simp only [if_neg c1]
    by_cases c2 : (xs.length : Int) > 32
    · simp only [if_pos c2]
      exact Ev.now _
    · simp only [if_neg c2]
      have := ev_drop xs (fun k i => trigauto_Check.l0 k xs (xs.length : Int) i) (fun l i => goErr l (i == 0)) ?_ ?_ xs.length 0 (by omega)
      · simpa using this
      · refine Ev.le 1 fun k => ?_
        simp only [trigauto_Check.l0]
        rw [if_neg (by omega)]
        rfl
      · intro i hi ih
        have e1 : ((i : Int) == 0) = (i == 0) := by rw [Bool.eq_iff_iff]; simp
        have e2 : wrap64 ((i : Int) + 1) = ((i + 1 : Nat) : Int) := by rw [wr_in (by omega)]; omega
        refine Ev.step (f := fun k => (trigauto_step.f k xs[i].f0.f0 xs[i].f0.f1 xs[i].f0.f2 xs[i].f0.f3 xs[i].f0.f4 xs[i].f1 xs[i].f2 xs[i].f3.f0 xs[i].f3.f1 xs[i].f3.f2 xs[i].f3.f3 xs[i].f3.f4 (i == 0)).bind fun t => if t = 0 then trigauto_Check.l0 k xs (xs.length : Int) ((i + 1 : Nat) : Int) else some t) (fun k => ?_) ?_
        · simp only [trigauto_Check.l0, rd50 xs i hi, e1, e2]
          rw [if_pos (by omega), if_pos (by omega), if_pos (by omega)]
        · refine (step_ev xs[i] (i == 0)).bind ?_
          simp only [goErr]
          by_cases c : sErr xs[i] (i == 0) = 0
          · simp only [if_pos c]
            exact ih
          · simp only [if_neg c]
            exact Ev.now _
end Go.Proofs.Ytgdjiphljadlcaa.K
