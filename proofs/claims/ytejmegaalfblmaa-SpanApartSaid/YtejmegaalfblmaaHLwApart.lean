/- SpanApart, in plain words; no condition. -/
import Derived.Test.YtejmegaalfblmaaHQGaps
import Derived.Test.YtejmegaalfblmaaHQLives
import Derived.Test.YtejmegaalfblmaaH18
namespace Go.Proofs.Ytejmegaalfblmaa.H
open Go.RowKit Go.Proofs.YtejmegaalfblmaaW.PrintWords Go.Proofs.YtejmegaalfblmaaW.PrintLast Go.Proofs.YtejmegaalfblmaaW.PrintMore
set_option linter.unusedSimpArgs false
theorem norm_next {l : List S25} (hn : Norm l) (i : Nat) (hi : i + 1 < l.length) : (l[i]'(by omega)).f1 < l[i + 1].f0 := (List.pairwise_iff_getElem.1 hn.1) i (i + 1) (by omega) hi (by omega)
theorem apart_l1 (l : List S25) (hl : l.length ≤ 1000000000) (hn : Norm l) (a0 a1 : Int) (hb : ∀ x ∈ l, a0 ≤ x.f0 ∧ x.f1 ≤ a1) : ∀ (m i : Nat) (k : Nat), l.length - i = m → i ≤ l.length → m + 1 ≤ k →
    signalbenchlaw06_SpanApart.l1 k l (i : Int) a0 a1 = some true := by
  intro m
  induction m with
  | zero =>
    intro i k h1 h2 hk
    obtain ⟨k, rfl⟩ : ∃ q, k = q + 1 := ⟨k - 1, by omega⟩
    rw [signalbenchlaw06_SpanApart.l1, if_neg (by omega)]
  | succ m ih =>
    intro i k h1 h2 hk
    obtain ⟨k, rfl⟩ : ∃ q, k = q + 1 := ⟨k - 1, by omega⟩
    have hi : i < l.length := by omega
    have hw : wrap64 ((i : Int) + 1) = ((i + 1 : Nat) : Int) := by rw [wrap_id (by omega) (by omega)]; rfl
    have hrec := ih (i + 1) k (by omega) (by omega) (by omega)
    have hbi := hb _ (List.getElem_mem hi)
    rw [signalbenchlaw06_SpanApart.l1, if_pos (by omega), if_pos (by omega), rd_at l i hi, hw, valid_f, hn.2 _ (List.getElem_mem hi), Option.bind_some, if_pos rfl]
    rcases i with _ | i
    · rw [if_neg (by omega), if_neg (by omega), if_neg (by omega), hrec]
    · have hw2 : wrap64 (((i + 1 : Nat) : Int) - 1) = (i : Int) := by rw [wrap_id (by omega) (by omega)]; omega
      have := norm_next hn i hi
      rw [if_pos (by omega), hw2, if_pos (by omega), if_pos (by omega), rd_at l i (by omega), if_neg (by omega), if_neg (by omega), if_neg (by omega), hrec]
theorem apart_l0 (l g : List S25) (hl : l.length ≤ 1000000000) (hn : Norm l) (a0 a1 : Int) (hg : ∀ k, g.length + 1 ≤ k → signalbenchlaw06_SpanApart.l1 k g 0 a0 a1 = some true) : ∀ (m i : Nat) (k : Nat), l.length - i = m → i ≤ l.length → m + 1 + g.length + 1 ≤ k →
    signalbenchlaw06_SpanApart.l0 k l g (i : Int) a0 a1 = some true := by
  intro m
  induction m with
  | zero =>
    intro i k h1 h2 hk
    obtain ⟨k, rfl⟩ : ∃ q, k = q + 1 := ⟨k - 1, by omega⟩
    rw [signalbenchlaw06_SpanApart.l0, if_neg (by omega)]
    exact hg k (by omega)
  | succ m ih =>
    intro i k h1 h2 hk
    obtain ⟨k, rfl⟩ : ∃ q, k = q + 1 := ⟨k - 1, by omega⟩
    have hi : i < l.length := by omega
    have hw : wrap64 ((i : Int) + 1) = ((i + 1 : Nat) : Int) := by rw [wrap_id (by omega) (by omega)]; rfl
    have hrec := ih (i + 1) k (by omega) (by omega) (by omega)
    rw [signalbenchlaw06_SpanApart.l0, if_pos (by omega), if_pos (by omega), rd_at l i hi, hw, valid_f, hn.2 _ (List.getElem_mem hi), Option.bind_some, if_pos rfl]
    rcases i with _ | i
    · rw [if_neg (by omega), hrec]
    · have hw2 : wrap64 (((i + 1 : Nat) : Int) - 1) = (i : Int) := by rw [wrap_id (by omega) (by omega)]; omega
      have := norm_next hn i hi
      rw [if_pos (by omega), hw2, if_pos (by omega), if_pos (by omega), rd_at l i (by omega), if_neg (by omega), hrec]
theorem apart_pure (l : List S25) (a0 a1 : Int) : ∃ k, signalbenchlaw06_SpanApart.f k l a0 a1 = some true := by
  refine Ev.rounds (g := fun k => signalbenchlaw06_SpanApart.f k l a0 a1) ?_
  unfold signalbenchlaw06_SpanApart.f
  rw [lives_f]
  simp only [Option.bind_some, if_true]
  by_cases c : (l.length : Int) > 200
  · simp only [if_pos c]
    exact Ev.now true
  · simp only [if_neg c]
    rw [join_f l (by omega)]
    simp only [Option.bind_some]
    refine (gaps_ev l (by omega) a0 a1).bind ?_
    obtain ⟨g1, g2, _⟩ := gaps_law l a0 a1
    have g3 := gaps_len l a0 a1
    have u3 : (unionS l).length ≤ l.length := join_len l
    refine ⟨(unionS l).length + 1 + (gapsS l a0 a1).length + 1, fun k hk => ?_⟩
    exact apart_l0 (unionS l) (gapsS l a0 a1) (by omega) (union_norm l) a0 a1 (fun k hk => apart_l1 _ (by omega) g1 a0 a1 g2 _ 0 k rfl (Nat.zero_le _) (by omega)) _ 0 k rfl (Nat.zero_le _) (by omega)
end Go.Proofs.Ytejmegaalfblmaa.H
