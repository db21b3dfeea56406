/- How many spans of a list of separate spans hold a tick; no condition. -/
import Derived.Test.YtejmegaalfblmaaHQBase
import Derived.Test.YtejmegaalfblmaaH19
namespace Go.Proofs.Ytejmegaalfblmaa.H
open Go.RowKit Go.Proofs.YtejmegaalfblmaaW.PrintWords Go.Proofs.YtejmegaalfblmaaW.PrintLast Go.Proofs.YtejmegaalfblmaaW.PrintMore
set_option linter.unusedSimpArgs false
def cntS (t : Int) : List S25 → Int
 | [] => 0
 | s :: l => (if s.f0 ≤ t ∧ t < s.f1 then 1 else 0) + cntS t l
theorem cntS_le (t : Int) : ∀ l, 0 ≤ cntS t l ∧ cntS t l ≤ l.length
  | [] => by simp [cntS]
  | s :: l => by
    have := cntS_le t l
    unfold cntS
    simp only [List.length_cons]
    split <;> omega
theorem cntS_norm (t : Int) : ∀ l, Norm l → (Cov l t → cntS t l = 1) ∧ (¬ Cov l t → cntS t l = 0)
  | [], _ => ⟨fun ⟨_, h, _⟩ => by simp at h, fun _ => rfl⟩
  | s :: l, h => by
    have ih := cntS_norm t l (norm_tail h)
    unfold cntS
    by_cases c : s.f0 ≤ t ∧ t < s.f1
    · have hn : ¬ Cov l t := by
        rintro ⟨u, hu, _, h1, _⟩
        have := norm_head h u hu
        omega
      rw [if_pos c, ih.2 hn]
      exact ⟨fun _ => rfl, fun hc => absurd (cov_head h c.1 c.2) hc⟩
    · rw [if_neg c]
      refine ⟨fun hc => ?_, fun hc => ?_⟩
      · rw [ih.1]
        · rfl
        · obtain ⟨u, hu, hv, h1⟩ := hc
          rcases List.mem_cons.1 hu with rfl | hu
          · exact absurd h1 c
          · exact ⟨u, hu, hv, h1⟩
      · rw [ih.2]
        · rfl
        · rintro ⟨u, hu, hh⟩
          exact hc ⟨u, List.mem_cons_of_mem _ hu, hh⟩
theorem count_loop (l : List S25) (hl : l.length ≤ 1000000000) (t : Int) : ∀ (m i : Nat) (k : Nat) (n : Int), l.length - i = m → i ≤ l.length → 0 ≤ n → n ≤ i → m + 1 ≤ k →
    signalbenchlaw06_count.l0 k l t n (i : Int) = some (n + cntS t (l.drop i)) := by
  intro m
  induction m with
  | zero =>
    intro i k n h1 h2 _ _ hk
    obtain ⟨k, rfl⟩ : ∃ q, k = q + 1 := ⟨k - 1, by omega⟩
    rw [signalbenchlaw06_count.l0, if_neg (by omega), List.drop_eq_nil_of_le (by omega)]
    simp [cntS]
  | succ m ih =>
    intro i k n h1 h2 h3 h4 hk
    obtain ⟨k, rfl⟩ : ∃ q, k = q + 1 := ⟨k - 1, by omega⟩
    have hi : i < l.length := by omega
    have hw : wrap64 ((i : Int) + 1) = ((i + 1 : Nat) : Int) := by rw [wrap_id (by omega) (by omega)]; rfl
    have hn : wrap64 (n + 1) = n + 1 := wrap_id (by omega) (by omega)
    rw [signalbenchlaw06_count.l0, if_pos (by omega), if_pos (by omega), rd_at l i hi, hw, hn, List.drop_eq_getElem_cons hi, cntS]
    by_cases c1 : l[i].f0 ≤ t
    · rw [if_pos c1]
      by_cases c2 : t < l[i].f1
      · rw [if_pos c2, if_pos ⟨c1, c2⟩, ih (i + 1) k (n + 1) (by omega) (by omega) (by omega) (by omega) (by omega)]
        congr 1
        omega
      · rw [if_neg c2, if_neg (fun c => c2 c.2), ih (i + 1) k n (by omega) (by omega) (by omega) (by omega) (by omega)]
        congr 1
        omega
    · rw [if_neg c1, if_neg (fun c => c1 c.1), ih (i + 1) k n (by omega) (by omega) (by omega) (by omega) (by omega)]
      congr 1
      omega
theorem count_ev (l : List S25) (hl : l.length ≤ 1000000000) (t : Int) : Ev (fun k => signalbenchlaw06_count.f k l t) (cntS t l) :=
  ⟨l.length + 1, fun k hk => by
    have := count_loop l hl t l.length 0 k 0 rfl (Nat.zero_le _) (by omega) (by omega) (by omega)
    rw [List.drop_zero] at this
    show signalbenchlaw06_count.l0 k l t 0 0 = _
    rw [show (0 : Int) = ((0 : Nat) : Int) from rfl]
    rw [show ((0 : Nat) : Int) = (0 : Int) from rfl] at *
    rw [this]
    congr 1
    omega⟩
end Go.Proofs.Ytejmegaalfblmaa.H
