/- A part of the plain laws of the search (layer 47); no condition. -/
import Derived.Test.YtgdjiphljadlcaaKQb
import Derived.Test.YtgdjiphljadlcaaKQd
import Derived.Test.YtgdjiphljadlcaaKQe
import Derived.Test.YtgdjiphljadlcaaKQf
import Derived.Test.YtgdjiphljadlcaaKQg
import Derived.Test.YtgdjiphljadlcaaKQh
import Derived.Test.YtgdjiphljadlcaaK0
import Derived.Test.YtgdjiphljadlcaaK32
namespace Go.Proofs.Ytgdjiphljadlcaa.K
open Go.RowKit Go.Proofs.YtgdjiphljadlcaaW.PrintWords Go.Proofs.YtgdjiphljadlcaaW.PrintLast Go.Proofs.YtgdjiphljadlcaaW.PrintMore
set_option linter.unusedSimpArgs false
theorem sound_pure (A : List S50) (l : List S46) (x : Int) : ∃ k, signalbenchlaw47_SearchSound.f k A l x = some true := by
  refine Ev.rounds (g := fun k => signalbenchlaw47_SearchSound.f k A l x) ?_
  unfold signalbenchlaw47_SearchSound.f
  by_cases c : (l.length : Int) > 200
  · simp only [if_pos c]
    exact awake_ev
  · simp only [if_neg c]
    have hl : l.length ≤ 1000000 := by omega
    refine (trace_ev A l hl x).bind ?_
    by_cases ct : chkErr A = 0 ∧ 0 ≤ x ∧ x < (l.length : Int) ∧ gN A l (A.length - 1) x.toNat = true
    · rw [trB, if_pos ct]
      obtain ⟨hc, h0, h1, hg⟩ := ct
      obtain ⟨q, rfl⟩ : ∃ q : Nat, x = (q : Int) := ⟨x.toNat, by omega⟩
      rw [Int.toNat_natCast] at hg ⊢
      have h := chk_len hc
      simp only [if_true]
      refine (matches_ev A l _ hl).bind ?_
      rw [trace_match A l hc q (by omega) hg]
      simp only [if_true, trace_len, wr_pred (show 0 < A.length by omega) (show A.length ≤ 1000000 by omega), if_pos (show (0 : Int) ≤ ((A.length - 1 : Nat) : Int) by omega), if_pos (show ((A.length - 1 : Nat) : Int) < (A.length : Int) by omega)]
      rw [trace_get A l q _ (by omega), Nat.sub_self]
      simp only [back, if_true]
      refine (next_ev A l hl _).bind ?_
      rw [next_self A l hc q (by omega) hg]
      simp only [if_true]
      exact awake_ev
    · rw [trB, if_neg ct]
      simp only [Bool.false_eq_true, if_false, List.length_nil, Int.ofNat_zero, if_pos (show ((0 : Nat) : Int) = 0 from rfl)]
      by_cases c0 : x < 0
      · simp only [if_pos c0]
        exact awake_ev
      · simp only [if_neg c0]
        refine (next_ev A l hl _).bind ?_
        have hne : ¬ firstFrom x (finB A l) = x := fun e => by
          obtain ⟨a1, q, a2, a3, a4⟩ := next_only A l x (by omega) e
          exact ct ⟨a1, by omega, by omega, by rw [a2, Int.toNat_natCast]; exact a4⟩
        simp only [if_neg hne]
        exact awake_ev
end Go.Proofs.Ytgdjiphljadlcaa.K
