/- A part of the plain laws of the search (layer 47); no condition. -/
import Derived.Test.YtgdjiphljadlcaaKQa
import Derived.Test.YtgdjiphljadlcaaKQb
import Derived.Test.YtgdjiphljadlcaaKQc
import Derived.Test.YtgdjiphljadlcaaK0
import Derived.Test.YtgdjiphljadlcaaK8
import Derived.Test.YtgdjiphljadlcaaK9
import Derived.Test.YtgdjiphljadlcaaK10
namespace Go.Proofs.Ytgdjiphljadlcaa.K
open Go.RowKit Go.Proofs.YtgdjiphljadlcaaW.PrintWords Go.Proofs.YtgdjiphljadlcaaW.PrintLast Go.Proofs.YtgdjiphljadlcaaW.PrintMore
set_option linter.unusedSimpArgs false
/-- may the place of a step be a match's? -/
def matS (A : List S50) (l : List S46) (pl : List Int) (j : Nat) : Bool :=
  decide (0 ≤ rd pl j ∧ rd pl j < (l.length : Int)) && sat (rd_T50 A j).f0 (rd_T46 l (rd pl j)) && (decide (j = 0) || fol (rd_T50 A j) l (rd pl ((j - 1 : Nat) : Int)).toNat (rd pl j).toNat)
def matG (A : List S50) (l : List S46) (pl : List Int) : Nat → Nat → Bool
  | 0, _ => true
  | d + 1, j => matS A l pl j && matG A l pl d (j + 1)
theorem matG_bad {A : List S50} {l : List S46} {pl : List Int} {j d : Nat} (h : matS A l pl j = false) : matG A l pl (d + 1) j = false := by rw [matG, h, Bool.false_and]
theorem wr_pred {j : Nat} (h : 0 < j) (hj : j ≤ 1000000) : wrap64 ((j : Int) - 1) = ((j - 1 : Nat) : Int) := by rw [wr_in (by omega)]; omega
theorem mat_l0 (A : List S50) (l : List S46) (pl : List Int) (hA : pl.length = A.length) (h32 : A.length ≤ 32) (hl : l.length ≤ 1000000) : ∀ d j, j + d = pl.length → (0 < j → 0 ≤ rd pl ((j - 1 : Nat) : Int) ∧ rd pl ((j - 1 : Nat) : Int) < (l.length : Int)) →
    Ev (fun k => search_Matches.l0 k l pl pl (pl.length : Int) j A) (matG A l pl d j) := by
  intro d
  induction d with
  | zero =>
    intro j hj _
    refine Ev.le 1 fun k => ?_
    simp only [search_Matches.l0]
    rw [if_neg (by omega)]
    rfl
  | succ d ih =>
    intro j hj hpre
    have hlt : j < A.length := by omega
    by_cases c1 : rd pl j < 0
    · rw [matG_bad (by unfold matS; rw [decide_eq_false (by omega)]; simp)]
      refine Ev.le 2 fun k => ?_
      simp only [search_Matches.l0, search_Matches.j2, if_true]
      rw [if_pos (by omega), if_pos (by omega), if_pos (by omega), if_pos c1]
    by_cases c2 : rd pl j ≥ (l.length : Int)
    · rw [matG_bad (by unfold matS; rw [decide_eq_false (by omega)]; simp)]
      refine Ev.le 2 fun k => ?_
      simp only [search_Matches.l0, search_Matches.j2, if_true]
      rw [if_pos (by omega), if_pos (by omega), if_pos (by omega), if_neg c1, if_pos c2]
    refine Ev.step (f := fun k => (search_satisfies.f k (rd_T50 A j).f0.f0 (rd_T50 A j).f0.f1 (rd_T50 A j).f0.f2 (rd_T50 A j).f0.f3 (rd_T50 A j).f0.f4 (rd_T46 l (rd pl j)).f0 (rd_T46 l (rd pl j)).f1 (rd_T46 l (rd pl j)).f2.f0 (rd_T46 l (rd pl j)).f2.f1 (rd_T46 l (rd pl j)).f2.f2 (rd_T46 l (rd pl j)).f2.f3 (rd_T46 l (rd pl j)).f2.f4 (rd_T46 l (rd pl j)).f2.f5 (rd_T46 l (rd pl j)).f2.f6).bind fun t => search_Matches.j2 k l pl j (rd pl j) pl (pl.length : Int) j (!t) A) (fun k => ?_) ?_
    · simp only [search_Matches.l0]
      rw [if_pos (by omega), if_pos (by omega), if_pos (by omega), if_neg c1, if_neg c2, if_pos (by omega), if_pos (by omega), if_pos (by omega)]
    · refine (sat_ev _ _).bind ?_
      by_cases c3 : sat (rd_T50 A j).f0 (rd_T46 l (rd pl j)) = true
      · simp only [c3, Bool.not_true]
        have ih' := ih (j + 1) (by omega) (fun _ => ⟨by simpa using c1, by simpa using c2⟩)
        by_cases c4 : j = 0
        · have e : matG A l pl (d + 1) j = matG A l pl d (j + 1) := by
            rw [matG, matS, decide_eq_true (show 0 ≤ rd pl j ∧ rd pl j < (l.length : Int) by omega), c3, decide_eq_true c4]
            simp
          rw [e]
          refine Ev.step (f := fun k => search_Matches.l0 k l pl pl (pl.length : Int) ((j + 1 : Nat) : Int) A) (fun k => ?_) ih'
          simp only [search_Matches.j2, Bool.false_eq_true, if_false, wr_nat (show j ≤ 1000000 by omega)]
          rw [if_neg (by omega)]
        · have hq := hpre (by omega)
          have e : matG A l pl (d + 1) j = (fol (rd_T50 A j) l (rd pl ((j - 1 : Nat) : Int)).toNat (rd pl j).toNat && matG A l pl d (j + 1)) := by
            rw [matG, matS, decide_eq_true (show 0 ≤ rd pl j ∧ rd pl j < (l.length : Int) by omega), c3, decide_eq_false c4]
            simp
          rw [e]
          refine Ev.step (f := fun k => (search_follows.f k (rd_T50 A j).f0.f0 (rd_T50 A j).f0.f1 (rd_T50 A j).f0.f2 (rd_T50 A j).f0.f3 (rd_T50 A j).f0.f4 (rd_T50 A j).f1 (rd_T50 A j).f2 (rd_T50 A j).f3.f0 (rd_T50 A j).f3.f1 (rd_T50 A j).f3.f2 (rd_T50 A j).f3.f3 (rd_T50 A j).f3.f4 l ((rd pl ((j - 1 : Nat) : Int)).toNat : Int) ((rd pl j).toNat : Int)).bind fun t => if t = true then search_Matches.l0 k l pl pl (pl.length : Int) ((j + 1 : Nat) : Int) A else some false) (fun k => ?_) ?_
          · simp only [search_Matches.j2, Bool.false_eq_true, if_false, wr_nat (show j ≤ 1000000 by omega), wr_pred (show 0 < j by omega) (show j ≤ 1000000 by omega)]
            rw [if_pos (by omega), if_pos (by omega), if_pos (by omega), if_pos (by omega), if_pos (by omega), Int.toNat_of_nonneg hq.1, Int.toNat_of_nonneg (by omega)]
          · refine (fol_ev _ l hl _ _ (by omega) (by omega)).bind ?_
            by_cases c5 : fol (rd_T50 A j) l (rd pl ((j - 1 : Nat) : Int)).toNat (rd pl j).toNat = true
            · simp only [c5, if_true, Bool.true_and]
              exact ih'
            · have c5' := by simpa using c5
              simp only [c5', Bool.false_eq_true, if_false, Bool.false_and]
              exact Ev.now _
      · have c3' : sat (rd_T50 A j).f0 (rd_T46 l (rd pl j)) = false := by simpa using c3
        rw [matG_bad (by unfold matS; rw [c3']; simp), c3']
        refine Ev.le 1 fun k => ?_
        simp only [search_Matches.j2, Bool.not_false, if_true]
/-- are the places a match? -/
def matB (A : List S50) (l : List S46) (pl : List Int) : Bool := decide (chkErr A = 0) && decide (pl.length = A.length) && matG A l pl pl.length 0
theorem chk_len {A : List S50} (h : chkErr A = 0) : 1 ≤ A.length ∧ A.length ≤ 32 := by
  unfold chkErr at h
  by_cases c1 : (A.length : Int) = 0
  · rw [if_pos c1] at h; cases h
  · rw [if_neg c1] at h
    by_cases c2 : (A.length : Int) > 32
    · rw [if_pos c2] at h; cases h
    · omega
theorem matches_ev (A : List S50) (l : List S46) (pl : List Int) (hl : l.length ≤ 1000000) : Ev (fun k => search_Matches.f k A l pl) (matB A l pl) := by
  unfold search_Matches.f matB
  refine (check_ev A).bind ?_
  by_cases c1 : chkErr A = 0
  · have h32 := chk_len c1
    simp only [c1, if_true, decide_true, Bool.true_and]
    by_cases c2 : pl.length = A.length
    · have e : ((pl.length : Int) != (A.length : Int)) = false := by simp [c2]
      rw [e, decide_eq_true c2, Bool.true_and]
      refine Ev.step (f := fun k => search_Matches.l0 k l pl pl (pl.length : Int) ((0 : Nat) : Int) A) (fun k => ?_) (mat_l0 A l pl c2 h32.2 hl pl.length 0 (by omega) (by omega))
      simp only [search_Matches.j0, Bool.false_eq_true, if_false]
      rfl
    · have e : ((pl.length : Int) != (A.length : Int)) = true := by simp; omega
      rw [e, decide_eq_false c2, Bool.false_and]
      refine Ev.le 1 fun k => ?_
      simp only [search_Matches.j0, if_true]
  · simp only [if_neg c1, decide_eq_false c1, Bool.false_and]
    refine Ev.le 1 fun k => ?_
    simp only [search_Matches.j0, if_true]
end Go.Proofs.Ytgdjiphljadlcaa.K
