/- What span.Total comes to; no condition. -/
import Derived.Test.YtejmegaalfblmaaHQSum
import Derived.Test.YtejmegaalfblmaaH6
namespace Go.Proofs.Ytejmegaalfblmaa.H
open Go.RowKit Go.Proofs.YtejmegaalfblmaaW.PrintWords Go.Proofs.YtejmegaalfblmaaW.PrintLast Go.Proofs.YtejmegaalfblmaaW.PrintMore
set_option linter.unusedSimpArgs false
theorem total_loop (l : List S25) (hl : l.length ≤ 1000000000) (hn : Norm l) : ∀ (m i : Nat) (k : Nat) (n : Int), l.length - i = m → i ≤ l.length → 0 ≤ n → n + sumS (l.drop i) ≤ 1099511627776 → m + 1 ≤ k →
    span_Total.l0 k n l (l.length : Int) (i : Int) = some (n + sumS (l.drop i)) := by
  intro m
  induction m with
  | zero =>
    intro i k n h1 h2 _ _ hk
    obtain ⟨k, rfl⟩ : ∃ q, k = q + 1 := ⟨k - 1, by omega⟩
    rw [span_Total.l0, if_neg (by omega), List.drop_eq_nil_of_le (by omega)]
    simp [sumS]
  | succ m ih =>
    intro i k n h1 h2 h3 h4 hk
    obtain ⟨k, rfl⟩ : ∃ q, k = q + 1 := ⟨k - 1, by omega⟩
    have hi : i < l.length := by omega
    have hw : wrap64 ((i : Int) + 1) = ((i + 1 : Nat) : Int) := by rw [wrap_id (by omega) (by omega)]; rfl
    have hd : l.drop i = l[i] :: l.drop (i + 1) := List.drop_eq_getElem_cons hi
    have hs := norm_bounds hn (List.getElem_mem hi)
    have hp := (sumS_pos (norm_drop hn (i + 1))).1
    rw [hd] at h4
    unfold sumS at h4
    rw [span_Total.l0, if_pos (by omega), if_pos (by omega), if_pos (by omega), rd_at l i hi, hw, hd, wrap_id (x := l[i].f1 - l[i].f0) (by omega) (by omega), wrap_id (by omega) (by omega), ih (i + 1) k _ (by omega) (by omega) (by omega) (by omega) (by omega)]
    congr 1
    rw [sumS]
    omega
theorem total_ev (l : List S25) (hl : l.length ≤ 1000000) : Ev (fun k => span_Total.f k l) (sumS (unionS l)) :=
  ⟨(unionS l).length + 1, fun k hk => by
    have hj : (unionS l).length ≤ 1000000 := Nat.le_trans (join_len l) hl
    have hp := sumS_pos (union_norm l)
    show span_Total.f k l = _
    unfold span_Total.f
    rw [join_f l hl, Option.bind_some]
    have := total_loop (unionS l) (by omega) (union_norm l) (unionS l).length 0 k 0 rfl (Nat.zero_le _) (by omega) (by rw [List.drop_zero]; omega) (by omega)
    rw [List.drop_zero] at this
    refine Eq.trans this ?_
    congr 1
    omega⟩
end Go.Proofs.Ytejmegaalfblmaa.H
