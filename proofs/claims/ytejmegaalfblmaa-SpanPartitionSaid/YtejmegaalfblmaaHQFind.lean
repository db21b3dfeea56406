/- What span.Find finds; no condition. -/
import Derived.Test.YtejmegaalfblmaaHQBase
import Derived.Test.YtejmegaalfblmaaH9
namespace Go.Proofs.Ytejmegaalfblmaa.H
open Go.RowKit Go.Proofs.YtejmegaalfblmaaW.PrintWords Go.Proofs.YtejmegaalfblmaaW.PrintLast Go.Proofs.YtejmegaalfblmaaW.PrintMore
set_option linter.unusedSimpArgs false
theorem contains_f (a b t : Int) : span_contains.f a b t = some (holdB ⟨a, b⟩ t) := by
  unfold span_contains.f holdB
  rw [valid_f, Option.bind_some]
  show _ = some (vld a b && (decide (a ≤ t) && decide (t < b)))
  by_cases h1 : vld a b = true
  · rw [if_pos h1, h1]
    by_cases h2 : a ≤ t <;> simp [h2]
  · rw [if_neg h1, Bool.eq_false_iff.2 h1]
    rfl
theorem find_loop (l : List S25) (hl : l.length ≤ 1000000000) (t : Int) : ∀ (m i : Nat) (k : Nat), l.length - i = m → i ≤ l.length → m + 1 ≤ k →
    span_Find.l0 k t l (l.length : Int) (i : Int) = some (findS t i (l.drop i)) := by
  intro m
  induction m with
  | zero =>
    intro i k h1 h2 hk
    obtain ⟨k, rfl⟩ : ∃ q, k = q + 1 := ⟨k - 1, by omega⟩
    rw [span_Find.l0, if_neg (by omega), List.drop_eq_nil_of_le (by omega)]
    rfl
  | succ m ih =>
    intro i k h1 h2 hk
    obtain ⟨k, rfl⟩ : ∃ q, k = q + 1 := ⟨k - 1, by omega⟩
    have hi : i < l.length := by omega
    have hw : wrap64 ((i : Int) + 1) = ((i + 1 : Nat) : Int) := by rw [wrap_id (by omega) (by omega)]; rfl
    rw [span_Find.l0, if_pos (by omega), if_pos (by omega), if_pos (by omega), rd_at l i hi, hw, List.drop_eq_getElem_cons hi, contains_f, Option.bind_some, findS]
    by_cases c : holdB l[i] t = true
    · rw [if_pos c, if_pos c]
    · rw [if_neg c, if_neg (show ¬ holdB ⟨l[i].f0, l[i].f1⟩ t = true from c)]
      exact ih (i + 1) k (by omega) (by omega) (by omega)
theorem find_ev (l : List S25) (hl : l.length ≤ 1000000000) (t : Int) : Ev (fun k => span_Find.f k l t) (findS t 0 l) :=
  ⟨l.length + 1, fun k hk => find_loop l hl t l.length 0 k rfl (Nat.zero_le _) (by omega)⟩
end Go.Proofs.Ytejmegaalfblmaa.H
