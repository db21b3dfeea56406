/- What the specification's Merge comes to, and FeedMerges in plain words; no condition beyond a list's own length. -/
import Derived.Test.YtioedeglgljblaaHQMerge
import Derived.Test.YtioedeglgljblaaH20
import Derived.Test.YtioedeglgljblaaH21
import Derived.Test.YtioedeglgljblaaHOp
namespace Go.Proofs.Ytioedeglgljblaa.H
open Go.RowKit Go.Proofs.YtioedeglgljblaaW.PrintWords Go.Proofs.YtioedeglgljblaaW.PrintLast Go.Proofs.YtioedeglgljblaaW.PrintMore
set_option linter.unusedSimpArgs false
theorem rplain_f (e : S48) : signalbenchref14_Plain.f e.f0 e.f1 e.f2 e.f3 e.f4 e.f5 e.f6 = some (plainB e) := plain_f e
theorem rmerge_loop (l : List S48) (hl : l.length * 64 ≤ 140737488351232) : ∀ (m i : Nat) (k : Nat) (out : List S48), l.length - (i + 1) = m → (h : i < l.length) → 0 < out.length → out.length ≤ i + 1 → m + 1 ≤ k →
    signalbenchref14_Merge.l0 k l out ((i + 1 : Nat) : Int) = some (mergeF l[i] (l.drop (i + 1)) out) := by
  intro m
  induction m with
  | zero =>
    intro i k out h1 h2 h3 h4 hk
    obtain ⟨k, rfl⟩ : ∃ q, k = q + 1 := ⟨k - 1, by omega⟩
    rw [signalbenchref14_Merge.l0, if_neg (by omega), List.drop_eq_nil_of_le (by omega)]
    rfl
  | succ m ih =>
    intro i k out h1 h2 h3 h4 hk
    obtain ⟨k, rfl⟩ : ∃ q, k = q + 1 := ⟨k - 1, by omega⟩
    have hi : i + 1 < l.length := by omega
    have hw := next_i (i + 1) _ hi (by omega)
    have hw2 : wrap64 (((i + 1 : Nat) : Int) - 1) = (i : Int) := by rw [wrap_id (by omega) (by omega)]; omega
    have hrec : ∀ o : List S48, 0 < o.length → o.length ≤ i + 2 → signalbenchref14_Merge.l0 k l o ((i + 1 + 1 : Nat) : Int) = some (mergeF l[i + 1] (l.drop (i + 1 + 1)) o) := fun o ho1 ho2 => ih (i + 1) k o (by omega) hi ho1 ho2 (by omega)
    obtain ⟨a, z, rfl⟩ : ∃ a z, out = a ++ [z] := by
      rcases List.eq_nil_or_concat out with rfl | ⟨a, z, rfl⟩
      · simp at h3
      · exact ⟨a, z, List.concat_eq_append⟩
    have hlz : (a ++ [z]).length = a.length + 1 := by simp
    have hw3 : wrap64 (((a ++ [z]).length : Int) - 1) = (a.length : Int) := by rw [wrap_id (by omega) (by omega)]; omega
    have hap := hrec ((a ++ [z]) ++ [l[i + 1]]) (by simp) (by simp at h4 ⊢; omega)
    have hst := hrec (setTo (a ++ [z]) l[i + 1].f2) (by rw [setTo_len]; exact h3) (by rw [setTo_len]; omega)
    rw [List.drop_eq_getElem_cons hi, mergeF]
    rw [signalbenchref14_Merge.l0, if_pos (by omega), if_pos (by omega), hw2, if_pos (by omega), if_pos (by omega), rd_at l i h2, rd_at l (i + 1) hi, hw, hw3, rplain_f, rplain_f, set_last]
    simp only [Option.bind_some, S48_eta]
    have hlim : (a ++ [z]).length < 2199023255552 := by omega
    have h00 : (0 : Int) ≤ ((i + 1 : Nat) : Int) := by omega
    by_cases c1 : plainB l[i] = true
    · rw [if_pos c1, if_pos h00]
      by_cases c2 : plainB l[i + 1] = true
      · rw [if_pos c2]
        by_cases c3 : l[i].f3 = l[i + 1].f3
        · rw [if_pos c3]
          by_cases c4 : l[i].f2 = l[i + 1].f1
          · rw [if_pos c4, if_pos (by omega), if_pos (by omega), if_pos (show joinsB _ _ from ⟨c1, c2, c3, c4⟩)]
            exact hst
          · rw [if_neg c4, if_pos hlim, if_neg (fun c => c4 c.2.2.2)]
            exact hap
        · rw [if_neg c3, if_pos hlim, if_neg (fun c => c3 c.2.2.1)]
          exact hap
      · rw [if_neg c2, if_pos hlim, if_neg (fun c => c2 c.2.1)]
        exact hap
    · rw [if_neg c1, if_pos h00, if_pos hlim, if_neg (fun c => c1 c.1)]
      exact hap
theorem rmerge_ev (l : List S48) (hl : l.length * 64 ≤ 140737488351232) : Ev (fun k => signalbenchref14_Merge.f k l) (mergeS l) := by
  refine ⟨l.length + 2, fun k hk => ?_⟩
  obtain ⟨k, rfl⟩ : ∃ q, k = q + 1 := ⟨k - 1, by omega⟩
  show signalbenchref14_Merge.f (k + 1) l = _
  unfold signalbenchref14_Merge.f
  rw [if_pos (by omega), if_pos (by omega)]
  cases l with
  | nil =>
    rw [signalbenchref14_Merge.l0, if_neg (by simp)]
    rfl
  | cons x l =>
    have h0 : 0 < (x :: l).length := by simp
    have := rmerge_loop (x :: l) hl _ 0 k [x] rfl h0 (by simp) (by simp) (by simp at hk ⊢; omega)
    have hr := rd_at (x :: l) 0 h0
    rw [signalbenchref14_Merge.l0, if_pos (by simp), if_neg (by omega), if_pos (by omega), if_pos (by simp)]
    rw [show ((0 : Nat) : Int) = 0 from rfl] at hr
    rw [hr, show wrap64 (0 + 1) = ((0 + 1 : Nat) : Int) by rw [wrap_id (by omega) (by omega)]; rfl]
    exact this
theorem merges_pure (l : List S48) (h : l.length ≤ 9223372036854775807 ∧ l.length * 64 ≤ 140737488351232 ∧ ∀ z ∈ l, Ok48 z) : ∃ k, signalbenchlaw14_FeedMerges.f k l = some true := by
  refine Ev.rounds (g := fun k => signalbenchlaw14_FeedMerges.f k l) ?_
  unfold signalbenchlaw14_FeedMerges.f signalbenchlaw14_awake.f
  have hm := mergeS_len l
  refine (merge_ev l h.2.1).bind ?_
  refine (rmerge_ev l h.2.1).bind ?_
  refine (same_ev (mergeS l) (by omega)).bind ?_
  simp only [if_true, Option.bind_some]
  exact Ev.now true
end Go.Proofs.Ytioedeglgljblaa.H
