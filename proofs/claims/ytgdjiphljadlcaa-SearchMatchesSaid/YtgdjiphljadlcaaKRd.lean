/- A part of the plain laws of the search (layer 47); no condition. -/
import Derived.Test.YtgdjiphljadlcaaKQa
import Derived.Test.YtgdjiphljadlcaaKQb
import Derived.Test.YtgdjiphljadlcaaKQc
import Derived.Test.YtgdjiphljadlcaaKQd
import Derived.Test.YtgdjiphljadlcaaKRb
import Derived.Test.YtgdjiphljadlcaaKRc
import Derived.Test.YtgdjiphljadlcaaK0
import Derived.Test.YtgdjiphljadlcaaK22
import Derived.Test.YtgdjiphljadlcaaK23
import Derived.Test.YtgdjiphljadlcaaK24
namespace Go.Proofs.Ytgdjiphljadlcaa.K
open Go.RowKit Go.Proofs.YtgdjiphljadlcaaW.PrintWords Go.Proofs.YtgdjiphljadlcaaW.PrintLast Go.Proofs.YtgdjiphljadlcaaW.PrintMore
set_option linter.unusedSimpArgs false
theorem rmat_l0 (A : List S50) (l : List S46) (pl : List Int) (hA : pl.length = A.length) (h32 : A.length ≤ 32) (hl : l.length ≤ 1000000) : ∀ d j, j + d = pl.length → (0 < j → 0 ≤ rd pl ((j - 1 : Nat) : Int) ∧ rd pl ((j - 1 : Nat) : Int) < (l.length : Int)) →
    Ev (fun k => signalbenchref47_Matches.l0 k l pl j A) (matG A l pl d j) := by
  intro d
  induction d with
  | zero =>
    intro j hj _
    refine Ev.le 1 fun k => ?_
    simp only [signalbenchref47_Matches.l0]
    rw [if_neg (by omega)]
    rfl
  | succ d ih =>
    intro j hj hpre
    have hlt : j < A.length := by omega
    by_cases c1 : rd pl j < 0
    · rw [matG_bad (by unfold matS; rw [decide_eq_false (by omega)]; simp)]
      refine Ev.le 2 fun k => ?_
      simp only [signalbenchref47_Matches.l0, signalbenchref47_Matches.j2, if_true]
      rw [if_pos (by omega), if_pos (by omega), if_pos c1]
    by_cases c2 : rd pl j ≥ (l.length : Int)
    · rw [matG_bad (by unfold matS; rw [decide_eq_false (by omega)]; simp)]
      refine Ev.le 2 fun k => ?_
      simp only [signalbenchref47_Matches.l0, signalbenchref47_Matches.j2, if_true]
      rw [if_pos (by omega), if_pos (by omega), if_neg c1, if_pos c2]
    by_cases c6 : 0 < j ∧ rd pl ((j - 1 : Nat) : Int) ≥ rd pl j
    · have hq := hpre c6.1
      rw [matG_bad (by unfold matS fol; rw [decide_eq_false (show ¬ j = 0 by omega), decide_eq_false (show ¬ (rd pl ((j - 1 : Nat) : Int)).toNat < (rd pl j).toNat by omega)]; simp)]
      refine Ev.le 2 fun k => ?_
      simp only [signalbenchref47_Matches.l0, signalbenchref47_Matches.j2, if_true, wr_pred c6.1 (show j ≤ 1000000 by omega)]
      rw [if_pos (by omega), if_pos (by omega), if_neg c1, if_neg c2, if_pos (by omega), if_pos (by omega), if_pos (by omega), if_pos c6.2]
    refine Ev.step (f := fun k => (signalbenchref47_satisfies.f k (rd_T50 A j).f0.f0 (rd_T50 A j).f0.f1 (rd_T50 A j).f0.f2 (rd_T50 A j).f0.f3 (rd_T50 A j).f0.f4 (rd_T46 l (rd pl j)).f0 (rd_T46 l (rd pl j)).f1 (rd_T46 l (rd pl j)).f2.f0 (rd_T46 l (rd pl j)).f2.f1 (rd_T46 l (rd pl j)).f2.f2 (rd_T46 l (rd pl j)).f2.f3 (rd_T46 l (rd pl j)).f2.f4 (rd_T46 l (rd pl j)).f2.f5 (rd_T46 l (rd pl j)).f2.f6).bind fun t => signalbenchref47_Matches.j2 k l pl j (rd pl j) (!t) A) (fun k => ?_) ?_
    · simp only [signalbenchref47_Matches.l0]
      rw [if_pos (by omega), if_pos (by omega), if_neg c1, if_neg c2]
      by_cases c4 : j = 0
      · rw [if_neg (by omega), if_pos (by omega), if_pos (by omega), if_pos (by omega)]
      · rw [if_pos (by omega), wr_pred (show 0 < j by omega) (show j ≤ 1000000 by omega), if_pos (by omega), if_pos (by omega), if_neg (by omega), if_pos (by omega), if_pos (by omega), if_pos (by omega)]
    · refine (rsat_ev _ _).bind ?_
      by_cases c3 : sat (rd_T50 A j).f0 (rd_T46 l (rd pl j)) = true
      · simp only [c3, Bool.not_true]
        have ih' := ih (j + 1) (by omega) (fun _ => ⟨by simpa using c1, by simpa using c2⟩)
        by_cases c4 : j = 0
        · have e : matG A l pl (d + 1) j = matG A l pl d (j + 1) := by
            rw [matG, matS, decide_eq_true (show 0 ≤ rd pl j ∧ rd pl j < (l.length : Int) by omega), c3, decide_eq_true c4]
            simp
          rw [e]
          refine Ev.step (f := fun k => signalbenchref47_Matches.l0 k l pl ((j + 1 : Nat) : Int) A) (fun k => ?_) ih'
          simp only [signalbenchref47_Matches.j2, Bool.false_eq_true, if_false, wr_nat (show j ≤ 1000000 by omega)]
          rw [if_neg (by omega)]
        · have hq := hpre (by omega)
          have e : matG A l pl (d + 1) j = (fol (rd_T50 A j) l (rd pl ((j - 1 : Nat) : Int)).toNat (rd pl j).toNat && matG A l pl d (j + 1)) := by
            rw [matG, matS, decide_eq_true (show 0 ≤ rd pl j ∧ rd pl j < (l.length : Int) by omega), c3, decide_eq_false c4]
            simp
          rw [e]
          refine Ev.step (f := fun k => (signalbenchref47_follows.f k A l j ((rd pl ((j - 1 : Nat) : Int)).toNat : Int) ((rd pl j).toNat : Int)).bind fun t => if t = true then signalbenchref47_Matches.l0 k l pl ((j + 1 : Nat) : Int) A else some false) (fun k => ?_) ?_
          · simp only [signalbenchref47_Matches.j2, Bool.false_eq_true, if_false, wr_nat (show j ≤ 1000000 by omega), wr_pred (show 0 < j by omega) (show j ≤ 1000000 by omega)]
            rw [if_pos (by omega), if_pos (by omega), if_pos (by omega), Int.toNat_of_nonneg hq.1, Int.toNat_of_nonneg (by omega)]
          · have hf := rfol_ev A j hlt l hl (rd pl ((j - 1 : Nat) : Int)).toNat (rd pl j).toNat (by omega) (by omega)
            rw [← rd50 A j hlt] at hf
            refine hf.bind ?_
            by_cases c5 : fol (rd_T50 A j) l (rd pl ((j - 1 : Nat) : Int)).toNat (rd pl j).toNat = true
            · simp only [c5, if_true, Bool.true_and]
              exact ih'
            · have c5' := by simpa using c5
              simp only [c5', Bool.false_eq_true, if_false, Bool.false_and]
              exact Ev.now _
      · have c3' : sat (rd_T50 A j).f0 (rd_T46 l (rd pl j)) = false := by simpa using c3
        rw [matG_bad (by unfold matS; rw [c3']; simp), c3']
        refine Ev.le 1 fun k => ?_
        simp only [signalbenchref47_Matches.j2, Bool.not_false, if_true]
theorem rmatches_ev (A : List S50) (l : List S46) (pl : List Int) (hl : l.length ≤ 1000000) : Ev (fun k => signalbenchref47_Matches.f k A l pl) (matB A l pl) := by
  unfold signalbenchref47_Matches.f matB
  refine (rcheck_ev A).bind ?_
  by_cases c1 : chkErr A = 0
  · have h32 := chk_len c1
    simp only [c1, if_true, decide_true, Bool.true_and]
    by_cases c2 : pl.length = A.length
    · have e : ((pl.length : Int) != (A.length : Int)) = false := by simp [c2]
      rw [e, decide_eq_true c2, Bool.true_and]
      refine Ev.step (f := fun k => signalbenchref47_Matches.l0 k l pl ((0 : Nat) : Int) A) (fun k => ?_) (rmat_l0 A l pl c2 h32.2 hl pl.length 0 (by omega) (by omega))
      simp only [signalbenchref47_Matches.j0, Bool.false_eq_true, if_false]
      rfl
    · have e : ((pl.length : Int) != (A.length : Int)) = true := by simp; omega
      rw [e, decide_eq_false c2, Bool.false_and]
      refine Ev.le 1 fun k => ?_
      simp only [signalbenchref47_Matches.j0, if_true]
  · simp only [if_neg c1, decide_eq_false c1, Bool.false_and]
    refine Ev.le 1 fun k => ?_
    simp only [signalbenchref47_Matches.j0, if_true]
end Go.Proofs.Ytgdjiphljadlcaa.K
