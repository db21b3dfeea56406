/- A part of the plain laws of the search (layer 47); no condition. -/
import Derived.Test.YtgdjiphljadlcaaKQa
import Derived.Test.YtgdjiphljadlcaaKQb
import Derived.Test.YtgdjiphljadlcaaKQd
import Derived.Test.YtgdjiphljadlcaaKQe
import Derived.Test.YtgdjiphljadlcaaKQf
import Derived.Test.YtgdjiphljadlcaaKQg
import Derived.Test.YtgdjiphljadlcaaKRb
import Derived.Test.YtgdjiphljadlcaaKRf
import Derived.Test.YtgdjiphljadlcaaK0
import Derived.Test.YtgdjiphljadlcaaK28
import Derived.Test.YtgdjiphljadlcaaK29
import Derived.Test.YtgdjiphljadlcaaK30
namespace Go.Proofs.Ytgdjiphljadlcaa.K
open Go.RowKit Go.Proofs.YtgdjiphljadlcaaW.PrintWords Go.Proofs.YtgdjiphljadlcaaW.PrintLast Go.Proofs.YtgdjiphljadlcaaW.PrintMore
set_option linter.unusedSimpArgs false
theorem rtrace_l0 (A : List S50) (h32 : A.length ≤ 32) (l : List S46) (hl : l.length ≤ 1000000) (at_ : Nat) (ha : at_ < l.length) (hg : gN A l (A.length - 1) at_ = true) : ∀ j, j ≤ A.length - 1 →
    Ev (fun k => signalbenchref47_Trace.l0 k l (rowsB A l A.length) (tab A.length (trS A l at_ j)) j A) (trace_ A l at_, true) := by
  intro j
  induction j with
  | zero =>
    intro _
    refine Ev.le 1 fun k => ?_
    simp only [signalbenchref47_Trace.l0]
    rw [if_neg (by omega)]
    rfl
  | succ j ih =>
    intro hj
    have ih' := ih (by omega)
    have hb := back_pos A l at_ ha hg (A.length - 1 - (j + 1)) (by omega)
    have hok := back_ok A l at_ ha hg (A.length - 1 - (j + 1)) (by omega)
    rw [show A.length - 1 - (A.length - 1 - (j + 1)) = j + 1 by omega, Nat.add_sub_cancel, show A.length - 1 - (j + 1) + 1 = A.length - 1 - j by omega] at hb
    have hrd : rd (tab A.length (trS A l at_ (j + 1))) ((j + 1 : Nat) : Int) = (back A l at_ (A.length - 1 - (j + 1)) : Int) := by
      rw [rd_tab _ _ _ (by omega)]
      unfold trS
      rw [if_pos (Nat.le_refl _)]
    have hset := trS_set A l at_ (j + 1) (by omega) _ hb.1
    rw [Nat.add_sub_cancel] at hset
    rw [← hset] at ih'
    have hrow : rd_L11 (rowsB A l A.length) (j : Int) = tab l.length (gN A l j) := rdL11 _ _ _ (by omega)
    have hw : wrap64 (((j + 1 : Nat) : Int) - 1) = (j : Int) := by rw [wr_in (by omega)]; omega
    refine Ev.step (f := fun k => (signalbenchref47_before.f k A l (tab l.length (gN A l j)) ((j + 1 : Nat) : Int) (back A l at_ (A.length - 1 - (j + 1)) : Int)).bind fun t => signalbenchref47_Trace.l0 k l (rowsB A l A.length) ((tab A.length (trS A l at_ (j + 1))).set j t) (j : Int) A) (fun k => ?_) ?_
    · simp only [signalbenchref47_Trace.l0, tab_len, rowsB_len, hrd, hw, hrow, Int.toNat_natCast]
      rw [if_pos (by omega), if_pos (by omega), if_pos (by omega), if_pos (by omega), if_pos (by omega)]
      congr 1
      funext t
      rw [if_pos (by omega)]
    · exact (beforef_ev A (j + 1) (by omega) l hl (gN A l j) _ hok.2).bind ih'
theorem rtrace_ev (A : List S50) (l : List S46) (hl : l.length ≤ 1000000) (x : Int) : Ev (fun k => signalbenchref47_Trace.f k A l x) (trB A l x) := by
  have no : Ev (fun k => signalbenchref47_Trace.j0 k l x true A) ([], false) := by
    refine Ev.le 1 fun k => ?_
    simp only [signalbenchref47_Trace.j0, if_true]
  unfold signalbenchref47_Trace.f
  refine (rcheck_ev A).bind ?_
  by_cases c3 : chkErr A = 0
  · simp only [if_pos c3]
    have h := chk_len c3
    by_cases c1 : x < 0
    · simp only [if_pos c1]
      rw [trB, if_neg (by omega)]
      exact no
    simp only [if_neg c1]
    by_cases c2 : x ≥ (l.length : Int)
    · rw [decide_eq_true c2, trB, if_neg (by omega)]
      exact no
    rw [decide_eq_false c2]
    obtain ⟨q, rfl⟩ : ∃ q : Nat, x = (q : Int) := ⟨x.toNat, by omega⟩
    have hq : q < l.length := by omega
    have hrow : rd_L11 (rowsB A l A.length) ((A.length - 1 : Nat) : Int) = tab l.length (gN A l (A.length - 1)) := rdL11 _ _ _ (by omega)
    refine Ev.step (f := fun k => (signalbenchref47_ends.f k A l).bind fun t => if 0 ≤ ((A.length - 1 : Nat) : Int) then (if ((A.length - 1 : Nat) : Int) < (t.length : Int) then (if (q : Int) < ((rd_L11 t ((A.length - 1 : Nat) : Int)).length : Int) then (if rdOf false (rd_L11 t ((A.length - 1 : Nat) : Int)) (q : Int) = true then signalbenchref47_Trace.l0 k l t ((List.replicate A.length (0 : Int)).set (A.length - 1) (q : Int)) ((A.length - 1 : Nat) : Int) A else some (([] : List Int), false)) else none) else none) else none) (fun k => ?_) ?_
    · simp only [signalbenchref47_Trace.j0, Bool.false_eq_true, if_false, wr_pred (show 0 < A.length by omega) (show A.length ≤ 1000000 by omega), Int.toNat_natCast, List.length_replicate, Option.bind_some, if_pos (show (0 : Int) ≤ (q : Int) by omega), if_pos (show (0 : Int) ≤ (A.length : Int) by omega), if_pos (show A.length ≤ 35184372088832 by omega), if_pos (show ((A.length - 1 : Nat) : Int) < (A.length : Int) by omega)]
    · refine (ends_ev A h.2 l hl).bind ?_
      simp only [rowsB_len, if_pos (show (0 : Int) ≤ ((A.length - 1 : Nat) : Int) by omega), if_pos (show ((A.length - 1 : Nat) : Int) < (A.length : Int) by omega), hrow, tab_len, if_pos (show (q : Int) < (l.length : Int) by omega), rdOf_tab _ _ _ hq]
      by_cases c4 : gN A l (A.length - 1) q = true
      · rw [trB, if_pos ⟨c3, by omega, by omega, by rw [Int.toNat_natCast]; exact c4⟩, Int.toNat_natCast]
        simp only [if_pos c4]
        rw [trS_first A l q h.1]
        exact rtrace_l0 A h.2 l hl q hq c4 (A.length - 1) (Nat.le_refl _)
      · simp only [if_neg c4]
        rw [trB, if_neg (by rw [Int.toNat_natCast]; exact fun h => c4 h.2.2.2)]
        exact Ev.now _
  · simp only [if_neg c3]
    rw [trB, if_neg (fun h => c3 h.1)]
    exact no
end Go.Proofs.Ytgdjiphljadlcaa.K
