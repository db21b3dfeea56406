/- What span.Gaps leaves; no condition. -/
import Derived.Test.YtejmegaalfblmaaHQBase
import Derived.Test.YtejmegaalfblmaaH17
namespace Go.Proofs.Ytejmegaalfblmaa.H
open Go.RowKit Go.Proofs.YtejmegaalfblmaaW.PrintWords Go.Proofs.YtejmegaalfblmaaW.PrintLast Go.Proofs.YtejmegaalfblmaaW.PrintMore
set_option linter.unusedSimpArgs false
theorem common_f (a b c d : Int) : span_Common.f a b c d = some (if vld a b = true ∧ vld c d = true ∧ max a c < min b d then (max a c, min b d, true) else (0, 0, false)) := by
  have e1 : mx a c = max a c := by unfold mx; omega
  have e2 : mn b d = min b d := by unfold mn; omega
  unfold span_Common.f
  rw [e1, e2]
  by_cases h1 : vld a b = true
  · by_cases h2 : vld c d = true
    · have h1' := vld_iff.1 h1
      have h2' := vld_iff.1 h2
      by_cases h3 : max a c < min b d
      · rw [if_pos, if_pos ⟨h1, h2, h3⟩]
        rw [h1, h2, Bool.true_and, Bool.true_and]
        exact vld_iff.2 ⟨by omega, h3, by omega⟩
      · rw [if_neg, if_neg (fun c => h3 c.2.2)]
        rw [h1, h2, Bool.true_and, Bool.true_and]
        exact fun c => h3 (vld_iff.1 c).2.1
    · rw [if_neg (by simp [h2]), if_neg (fun c => h2 c.2.1)]
  · rw [if_neg (by simp [h1]), if_neg (fun c => h1 c.1)]
/-- the gaps from a tick on -/
def gapR (a0 a1 : Int) : Int → List S25 → List S25
 | a, [] => if a < a1 then [⟨a, a1⟩] else []
 | a, s :: l => if max s.f0 a0 < min s.f1 a1 then (if a < max s.f0 a0 then ⟨a, max s.f0 a0⟩ :: gapR a0 a1 (min s.f1 a1) l else gapR a0 a1 (min s.f1 a1) l) else gapR a0 a1 a l
theorem cov_nil (t : Int) : ¬ Cov [] t := fun ⟨_, h, _⟩ => by simp at h
theorem cov_cons (s : S25) (l : List S25) (t : Int) : Cov (s :: l) t ↔ (vld s.f0 s.f1 = true ∧ s.f0 ≤ t ∧ t < s.f1) ∨ Cov l t := by
  rw [show s :: l = [s] ++ l from rfl, cov_append, cov_one]
theorem gapR_law (a0 a1 : Int) (h0 : 0 ≤ a0) (h1 : a1 ≤ 1099511627776) : ∀ (l : List S25) (a : Int), Norm l → a0 ≤ a → a ≤ a1 → (a = a0 ∨ ∀ s ∈ l, a < s.f0) →
    Norm (gapR a0 a1 a l) ∧ (∀ x ∈ gapR a0 a1 a l, a ≤ x.f0 ∧ x.f1 ≤ a1) ∧ ∀ t, Cov (gapR a0 a1 a l) t ↔ a ≤ t ∧ t < a1 ∧ ¬ Cov l t
  | [], a, _, ha, hb, _ => by
    unfold gapR
    by_cases c : a < a1
    · rw [if_pos c]
      have hv : vld a a1 = true := vld_iff.2 ⟨by omega, c, h1⟩
      refine ⟨⟨List.pairwise_singleton _ _, fun x hx => by rw [List.mem_singleton.1 hx]; exact hv⟩, fun x hx => by rw [List.mem_singleton.1 hx]; exact ⟨Int.le_refl _, Int.le_refl _⟩, fun t => ?_⟩
      rw [cov_one]
      simp only [hv, true_and]
      exact ⟨fun h => ⟨h.1, h.2, cov_nil t⟩, fun h => ⟨h.1, h.2.1⟩⟩
    · rw [if_neg c]
      exact ⟨⟨List.Pairwise.nil, fun x hx => by simp at hx⟩, fun x hx => by simp at hx, fun t => ⟨fun h => absurd h (cov_nil t), fun h => by omega⟩⟩
  | s :: l, a, hn, ha, hb, hab => by
    have hs := vld_iff.1 (hn.2 s List.mem_cons_self)
    unfold gapR
    by_cases c : max s.f0 a0 < min s.f1 a1
    · rw [if_pos c]
      obtain ⟨i1, i2, i3⟩ := gapR_law a0 a1 h0 h1 l (min s.f1 a1) (norm_tail hn) (by omega) (by omega) (.inr (fun u hu => by have := norm_head hn u hu; omega))
      have hlow : ∀ t, t < min s.f1 a1 → ¬ Cov l t := by
        rintro t ht ⟨u, hu, _, hh, _⟩
        have := norm_head hn u hu
        omega
      have key : ∀ t, (min s.f1 a1 ≤ t ∧ t < a1 ∧ ¬ Cov l t) ∨ (a ≤ t ∧ t < max s.f0 a0) ↔ (min s.f1 a1 ≤ t ∧ t < a1 ∧ ¬ Cov l t) ∨ (a ≤ t ∧ t < max s.f0 a0 ∧ t < min s.f1 a1) := by
        intro t
        constructor
        · rintro (h | h)
          · exact .inl h
          · exact .inr ⟨h.1, h.2, by omega⟩
        · rintro (h | h)
          · exact .inl h
          · exact .inr ⟨h.1, h.2.1⟩
      have main : ∀ t, (a ≤ t ∧ t < a1 ∧ ¬ Cov (s :: l) t) → (min s.f1 a1 ≤ t ∧ t < a1 ∧ ¬ Cov l t) ∨ (a ≤ t ∧ t < max s.f0 a0) := by
        rintro t ⟨g1, g2, g3⟩
        rw [cov_cons] at g3
        have g4 : ¬ Cov l t := fun x => g3 (.inr x)
        by_cases c2 : min s.f1 a1 ≤ t
        · exact .inl ⟨c2, g2, g4⟩
        · refine .inr ⟨g1, ?_⟩
          apply Classical.byContradiction
          intro c3
          exact g3 (.inl ⟨hn.2 s List.mem_cons_self, by omega, by omega⟩)
      have back : ∀ t, (a ≤ min s.f1 a1) → (min s.f1 a1 ≤ t ∧ t < a1 ∧ ¬ Cov l t) → (a ≤ t ∧ t < a1 ∧ ¬ Cov (s :: l) t) := by
        rintro t g0 ⟨g1, g2, g3⟩
        refine ⟨by omega, g2, fun g4 => ?_⟩
        rcases (cov_cons _ _ _).1 g4 with ⟨_, g5, g6⟩ | g5
        · omega
        · exact g3 g5
      by_cases c2 : a < max s.f0 a0
      · rw [if_pos c2]
        have hv : vld a (max s.f0 a0) = true := vld_iff.2 ⟨by omega, c2, by omega⟩
        refine ⟨⟨List.pairwise_cons.2 ⟨fun x hx => ?_, i1.1⟩, fun x hx => ?_⟩, fun x hx => ?_, fun t => ?_⟩
        · have := (i2 x hx).1
          show max s.f0 a0 < x.f0
          omega
        · rcases List.mem_cons.1 hx with rfl | hx
          · exact hv
          · exact i1.2 x hx
        · rcases List.mem_cons.1 hx with rfl | hx
          · exact ⟨Int.le_refl _, by show max s.f0 a0 ≤ a1; omega⟩
          · have := i2 x hx
            omega
        · rw [cov_cons, i3]
          simp only [hv, true_and]
          constructor
          · rintro (g | g)
            · refine ⟨g.1, by omega, fun g4 => ?_⟩
              rcases (cov_cons _ _ _).1 g4 with ⟨_, g5, g6⟩ | g5
              · omega
              · exact hlow t (by omega) g5
            · exact back t (by omega) g
          · intro g
            exact (main t g).symm
      · rw [if_neg c2]
        by_cases c3 : a ≤ min s.f1 a1
        · refine ⟨i1, fun x hx => by have := i2 x hx; omega, fun t => ?_⟩
          rw [i3]
          constructor
          · exact back t c3
          · intro g
            rcases main t g with g | g
            · exact g
            · omega
        · exfalso
          rcases hab with rfl | hab
          · omega
          · have := hab s List.mem_cons_self
            omega
    · rw [if_neg c]
      obtain ⟨i1, i2, i3⟩ := gapR_law a0 a1 h0 h1 l a (norm_tail hn) ha hb (hab.imp id (fun h u hu => h u (List.mem_cons_of_mem _ hu)))
      refine ⟨i1, i2, fun t => ?_⟩
      rw [i3, cov_cons]
      constructor
      · rintro ⟨g1, g2, g3⟩
        refine ⟨g1, g2, fun g => ?_⟩
        rcases g with ⟨_, g4, g5⟩ | g
        · omega
        · exact g3 g
      · rintro ⟨g1, g2, g3⟩
        exact ⟨g1, g2, fun g => g3 (.inr g)⟩

theorem gaps_loop (l : List S25) (hl : l.length ≤ 1000000) (hn : Norm l) (a0 a1 : Int) (hv : vld a0 a1 = true) : ∀ (m i : Nat) (k : Nat) (out : List S25) (a : Int), l.length - i = m → i ≤ l.length → out.length ≤ i → m + 1 ≤ k →
    span_Gaps.l0 k out a l (l.length : Int) (i : Int) a0 a1 = some (out ++ gapR a0 a1 a (l.drop i)) := by
  intro m
  induction m with
  | zero =>
    intro i k out a h1 h2 h3 hk
    obtain ⟨k, rfl⟩ : ∃ q, k = q + 1 := ⟨k - 1, by omega⟩
    rw [span_Gaps.l0, if_neg (by omega), List.drop_eq_nil_of_le (by omega), gapR]
    by_cases c : a < a1
    · rw [if_pos c, if_pos c, if_pos (by omega)]
    · rw [if_neg c, if_neg c, List.append_nil]
  | succ m ih =>
    intro i k out a h1 h2 h3 hk
    obtain ⟨k, rfl⟩ : ∃ q, k = q + 1 := ⟨k - 1, by omega⟩
    have hi : i < l.length := by omega
    have hw : wrap64 ((i : Int) + 1) = ((i + 1 : Nat) : Int) := by rw [wrap_id (by omega) (by omega)]; rfl
    have hd : l.drop i = l[i] :: l.drop (i + 1) := List.drop_eq_getElem_cons hi
    have hvi : vld l[i].f0 l[i].f1 = true := hn.2 _ (List.getElem_mem hi)
    by_cases c : max l[i].f0 a0 < min l[i].f1 a1
    · have hcf : span_Common.f l[i].f0 l[i].f1 a0 a1 = some (max l[i].f0 a0, min l[i].f1 a1, true) := by rw [common_f, if_pos ⟨hvi, hv, c⟩]
      rw [span_Gaps.l0, if_pos (by omega), if_pos (by omega), if_pos (by omega), rd_at l i hi, hw, hd, hcf, Option.bind_some, gapR, if_pos c, if_pos rfl]
      show (if a < max l[i].f0 a0 then _ else _) = _
      by_cases c2 : a < max l[i].f0 a0
      · rw [if_pos c2, if_pos c2, if_pos (by omega), ih (i + 1) k _ _ (by omega) (by omega) (by simp; omega) (by omega), List.append_assoc]
        rfl
      · rw [if_neg c2, if_neg c2, ih (i + 1) k _ _ (by omega) (by omega) (by omega) (by omega)]
    · have hcf : span_Common.f l[i].f0 l[i].f1 a0 a1 = some (0, 0, false) := by rw [common_f, if_neg (fun h => c h.2.2)]
      rw [span_Gaps.l0, if_pos (by omega), if_pos (by omega), if_pos (by omega), rd_at l i hi, hw, hd, hcf, Option.bind_some, gapR, if_neg c, if_neg (by simp)]
      exact ih (i + 1) k _ _ (by omega) (by omega) (by omega) (by omega)
/-- the gaps of a list in a span -/
def gapsS (l : List S25) (a0 a1 : Int) : List S25 := if vld a0 a1 = true then gapR a0 a1 a0 (unionS l) else []
theorem gaps_ev (l : List S25) (hl : l.length ≤ 1000000) (a0 a1 : Int) : Ev (fun k => span_Gaps.f k l a0 a1) (gapsS l a0 a1) :=
  ⟨(unionS l).length + 1, fun k hk => by
    have hj : (unionS l).length ≤ 1000000 := Nat.le_trans (join_len l) hl
    show span_Gaps.f k l a0 a1 = _
    unfold span_Gaps.f gapsS
    rw [valid_f, Option.bind_some]
    by_cases hv : vld a0 a1 = true
    · rw [if_pos hv, if_pos hv, join_f l hl, Option.bind_some]
      have := gaps_loop (unionS l) hj (union_norm l) a0 a1 hv (unionS l).length 0 k [] a0 rfl (Nat.zero_le _) (Nat.zero_le _) (by omega)
      rw [List.drop_zero, List.nil_append] at this
      exact this
    · rw [if_neg hv, if_neg hv]⟩
theorem gaps_law (l : List S25) (a0 a1 : Int) : Norm (gapsS l a0 a1) ∧ (∀ x ∈ gapsS l a0 a1, a0 ≤ x.f0 ∧ x.f1 ≤ a1) ∧ ∀ t, Cov (gapsS l a0 a1) t ↔ vld a0 a1 = true ∧ a0 ≤ t ∧ t < a1 ∧ ¬ Cov l t := by
  unfold gapsS
  by_cases hv : vld a0 a1 = true
  · have hv' := vld_iff.1 hv
    rw [if_pos hv]
    obtain ⟨h1, h2, h3⟩ := gapR_law a0 a1 (by omega) (by omega) (unionS l) a0 (union_norm l) (Int.le_refl _) (by omega) (.inl rfl)
    refine ⟨h1, h2, fun t => ?_⟩
    rw [h3, union_cov]
    exact ⟨fun h => ⟨hv, h⟩, fun h => h.2⟩
  · rw [if_neg hv]
    exact ⟨⟨List.Pairwise.nil, fun x hx => by simp at hx⟩, fun x hx => by simp at hx, fun t => ⟨fun h => absurd h (cov_nil t), fun h => absurd h.1 hv⟩⟩
theorem gapR_len (a0 a1 : Int) : ∀ (l : List S25) (a : Int), (gapR a0 a1 a l).length ≤ l.length + 1
  | [], a => by
    unfold gapR
    split <;> simp
  | s :: l, a => by
    have i1 := gapR_len a0 a1 l (min s.f1 a1)
    have i2 := gapR_len a0 a1 l a
    unfold gapR
    simp only [List.length_cons]
    split
    · split
      · simp only [List.length_cons]
        omega
      · omega
    · omega
theorem gaps_len (l : List S25) (a0 a1 : Int) : (gapsS l a0 a1).length ≤ l.length + 1 := by
  unfold gapsS
  split
  · have := gapR_len a0 a1 (unionS l) a0
    have : (unionS l).length ≤ l.length := join_len l
    omega
  · simp
end Go.Proofs.Ytejmegaalfblmaa.H
