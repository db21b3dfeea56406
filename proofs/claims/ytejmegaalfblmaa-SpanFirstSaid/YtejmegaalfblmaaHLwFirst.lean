/- SpanFirst, in plain words; no condition. -/
import Derived.Test.YtejmegaalfblmaaHQFind
import Derived.Test.YtejmegaalfblmaaHQLives
import Derived.Test.YtejmegaalfblmaaH10
namespace Go.Proofs.Ytejmegaalfblmaa.H
open Go.RowKit Go.Proofs.YtejmegaalfblmaaW.PrintWords Go.Proofs.YtejmegaalfblmaaW.PrintLast Go.Proofs.YtejmegaalfblmaaW.PrintMore
set_option linter.unusedSimpArgs false
theorem first_loop (l : List S25) (hl : l.length ≤ 1000000000) (t x : Int) : ∀ (m i : Nat) (k : Nat), l.length - i = m → i ≤ l.length → m + 1 ≤ k →
    signalbenchlaw06_SpanFirst.l0 k l t x (i : Int) = some (x == findS t i (l.drop i)) := by
  intro m
  induction m with
  | zero =>
    intro i k h1 h2 hk
    obtain ⟨k, rfl⟩ : ∃ q, k = q + 1 := ⟨k - 1, by omega⟩
    rw [signalbenchlaw06_SpanFirst.l0, if_neg (by omega), List.drop_eq_nil_of_le (by omega)]
    rfl
  | succ m ih =>
    intro i k h1 h2 hk
    obtain ⟨k, rfl⟩ : ∃ q, k = q + 1 := ⟨k - 1, by omega⟩
    have hi : i < l.length := by omega
    have hw : wrap64 ((i : Int) + 1) = ((i + 1 : Nat) : Int) := by rw [wrap_id (by omega) (by omega)]; rfl
    have hrec := ih (i + 1) k (by omega) (by omega) (by omega)
    rw [signalbenchlaw06_SpanFirst.l0, if_pos (by omega), if_pos (by omega), rd_at l i hi, hw, List.drop_eq_getElem_cons hi, valid_f, Option.bind_some, findS]
    by_cases c1 : vld l[i].f0 l[i].f1 = true
    · rw [if_pos c1]
      by_cases c2 : l[i].f0 ≤ t
      · rw [if_pos c2]
        by_cases c3 : t < l[i].f1
        · rw [if_pos c3, if_pos (holdB_iff.2 ⟨c1, c2, c3⟩)]
        · rw [if_neg c3, if_neg (fun h => c3 (holdB_iff.1 h).2.2), hrec]
      · rw [if_neg c2, if_neg (fun h => c2 (holdB_iff.1 h).2.1), hrec]
    · rw [if_neg c1, if_neg (fun h => c1 (holdB_iff.1 h).1), hrec]
theorem first_pure (l : List S25) (t : Int) : ∃ k, signalbenchlaw06_SpanFirst.f k l t = some true := by
  refine Ev.rounds (g := fun k => signalbenchlaw06_SpanFirst.f k l t) ?_
  unfold signalbenchlaw06_SpanFirst.f
  rw [lives_f]
  simp only [Option.bind_some, if_true]
  by_cases c : (l.length : Int) > 500
  · simp only [if_pos c]
    exact Ev.now true
  · simp only [if_neg c]
    have hb : -1 ≤ findS t 0 l ∧ findS t 0 l < l.length ∨ findS t 0 l = -1 := by
      by_cases h : Cov l t
      · have := findS_some l 0 h
        omega
      · exact .inr (findS_none l 0 h)
    refine (find_ev l (by omega) t).bind ?_
    simp only [if_neg (show ¬ findS t 0 l < -1 by omega)]
    refine Ev.step (f := fun k => signalbenchlaw06_SpanFirst.l0 k l t (findS t 0 l) 0) (fun k => ?_) ⟨l.length + 1, fun k hk => ?_⟩
    · rw [signalbenchlaw06_SpanFirst.j0, if_neg (by simp; omega)]
    · have := first_loop l (by omega) t (findS t 0 l) l.length 0 k rfl (Nat.zero_le _) (by omega)
      rw [List.drop_zero] at this
      refine Eq.trans this ?_
      simp
end Go.Proofs.Ytejmegaalfblmaa.H
