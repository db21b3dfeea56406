/- FeedSplits, in plain words; no condition. -/
import Derived.Test.YtioedeglgljblaaHQBase
import Derived.Test.YtioedeglgljblaaHSplit
import Derived.Test.YtioedeglgljblaaH22
import Derived.Test.YtioedeglgljblaaH23
namespace Go.Proofs.Ytioedeglgljblaa.H
open Go.RowKit Go.Proofs.YtioedeglgljblaaW.PrintWords Go.Proofs.YtioedeglgljblaaW.PrintLast Go.Proofs.YtioedeglgljblaaW.PrintMore
set_option linter.unusedSimpArgs false
theorem rplain_f (e : S48) : signalbenchref14_Plain.f e.f0 e.f1 e.f2 e.f3 e.f4 e.f5 e.f6 = some (plainB e) := plain_f e
/-- the least element of a list within two bounds, or the upper one -/
def nextF (a : Int) : List Int → Int → Int
 | [], b => b
 | t :: l, b => nextF a l (if a < t ∧ t < b then t else b)
theorem nextF_law (a : Int) : ∀ (l : List Int) (b : Int), nextF a l b ≤ b ∧ (nextF a l b = b ∨ (nextF a l b ∈ l ∧ a < nextF a l b)) ∧ ∀ t ∈ l, a < t → nextF a l b ≤ t
  | [], b => ⟨Int.le_refl _, .inl rfl, fun t h => by simp at h⟩
  | t :: l, b => by
    unfold nextF
    by_cases c : a < t ∧ t < b
    · rw [if_pos c]
      obtain ⟨h1, h2, h3⟩ := nextF_law a l t
      refine ⟨by omega, .inr ?_, fun u hu hau => ?_⟩
      · rcases h2 with h2 | h2
        · rw [h2]; exact ⟨List.mem_cons_self, c.1⟩
        · exact ⟨List.mem_cons_of_mem _ h2.1, h2.2⟩
      · rcases List.mem_cons.1 hu with rfl | hu
        · exact h1
        · exact h3 u hu hau
    · rw [if_neg c]
      obtain ⟨h1, h2, h3⟩ := nextF_law a l b
      refine ⟨h1, ?_, fun u hu hau => ?_⟩
      · rcases h2 with h2 | h2
        · exact .inl h2
        · exact .inr ⟨List.mem_cons_of_mem _ h2.1, h2.2⟩
      · rcases List.mem_cons.1 hu with rfl | hu
        · omega
        · exact h3 u hu hau
theorem next_loop (l : List Int) (hl : l.length ≤ 4611686018427387904) (a : Int) : ∀ (m i : Nat) (k : Nat) (b : Int), l.length - i = m → i ≤ l.length → m + 1 ≤ k →
    signalbenchref14_next.l0 k l a b (i : Int) = some (nextF a (l.drop i) b) := by
  intro m
  induction m with
  | zero =>
    intro i k b h1 h2 hk
    obtain ⟨k, rfl⟩ : ∃ q, k = q + 1 := ⟨k - 1, by omega⟩
    rw [signalbenchref14_next.l0, if_neg (by omega), List.drop_eq_nil_of_le (by omega)]
    rfl
  | succ m ih =>
    intro i k b h1 h2 hk
    obtain ⟨k, rfl⟩ : ∃ q, k = q + 1 := ⟨k - 1, by omega⟩
    have hi : i < l.length := by omega
    have hrec : ∀ b', signalbenchref14_next.l0 k l a b' ((i + 1 : Nat) : Int) = some (nextF a (l.drop (i + 1)) b') := fun b' => ih (i + 1) k b' (by omega) (by omega) (by omega)
    rw [signalbenchref14_next.l0, if_pos (by omega), if_pos (by omega), rdI l i hi, next_i i _ hi hl, List.drop_eq_getElem_cons hi, nextF]
    by_cases c1 : l[i] > a
    · rw [if_pos c1]
      by_cases c2 : l[i] < b
      · rw [if_pos c2, if_pos ⟨c1, c2⟩]
        exact hrec _
      · rw [if_neg c2, if_neg (fun c => c2 c.2)]
        exact hrec _
    · rw [if_neg c1, if_neg (fun c => c1 c.1)]
      exact hrec _
theorem next_f (l : List Int) (hl : l.length ≤ 4611686018427387904) (a b : Int) (k : Nat) (hk : l.length + 1 ≤ k) : signalbenchref14_next.f k l a b = some (nextF a l b) := by
  have := next_loop l hl a l.length 0 k b rfl (Nat.zero_le _) hk
  rw [List.drop_zero] at this
  exact this
/-- the specification's cutting of one event comes to the code's -/
theorem cut_l1 (l : List S48) (ts : List Int) (hts : ts.length ≤ 200) (hl : l.length ≤ 200) (i : Nat) (hi : i < l.length) (e : S48) (R : List S48) (K : Nat) (hK : 300 ≤ K) : ∀ (us : List Int) (f1 : Int) (out : List S48) (k : Nat),
    us.Pairwise (· ≤ ·) → (∀ a, (a ∈ ts ∧ f1 < a ∧ a < e.f2) ↔ (a ∈ us ∧ f1 < a ∧ a < e.f2)) → out.length + us.length ≤ 300000 →
    (∀ k, K ≤ k → signalbenchref14_Split.l0 k l ts (out ++ cutE ⟨e.f0, f1, e.f2, e.f3, e.f4, e.f5, e.f6⟩ us) ((i + 1 : Nat) : Int) = some R) → K + us.length + 1 ≤ k →
    signalbenchref14_Split.l1 k l ts out (i : Int) (nextF f1 ts e.f2) e.f0 f1 e.f2 e.f3 e.f4 e.f5 e.f6 = some R
  | [], f1, out, k, _, hm, ho, hR, hk => by
    obtain ⟨k, rfl⟩ : ∃ q, k = q + 1 := ⟨k - 1, by omega⟩
    obtain ⟨h1, h2, h3⟩ := nextF_law f1 ts e.f2
    have hn : ¬ nextF f1 ts e.f2 < e.f2 := by
      intro c
      rcases h2 with h2 | h2
      · omega
      · have := (hm _).1 ⟨h2.1, h2.2, c⟩
        simp at this
    rw [signalbenchref14_Split.l1, if_neg hn, if_pos (by simp at ho; omega), next_i i _ hi (by omega)]
    exact hR k (by omega)
  | t :: us, f1, out, k, hs, hm, ho, hR, hk => by
    have hs' := List.pairwise_cons.1 hs
    by_cases c : t ≤ f1 ∨ t ≥ e.f2
    · refine cut_l1 l ts hts hl i hi e R K hK us f1 out k hs'.2 (fun a => (hm a).trans ?_) (by simp at ho; omega) (fun k hk => ?_) (by simp at hk; omega)
      · constructor
        · rintro ⟨h1, h2, h3⟩
          rcases List.mem_cons.1 h1 with rfl | h1
          · omega
          · exact ⟨h1, h2, h3⟩
        · rintro ⟨h1, h2, h3⟩
          exact ⟨List.mem_cons_of_mem _ h1, h2, h3⟩
      · have := hR k hk
        rw [cutE, if_pos c] at this
        exact this
    · obtain ⟨k, rfl⟩ : ∃ q, k = q + 1 := ⟨k - 1, by omega⟩
      obtain ⟨h1, h2, h3⟩ := nextF_law f1 ts e.f2
      have hin := (hm t).2 ⟨List.mem_cons_self, by omega, by omega⟩
      have hn : nextF f1 ts e.f2 = t := by
        have hle := h3 t hin.1 hin.2.1
        rcases h2 with h2 | h2
        · omega
        · have := (hm _).1 ⟨h2.1, h2.2, by omega⟩
          rcases List.mem_cons.1 this.1 with h4 | h4
          · exact h4
          · have := hs'.1 _ h4
            omega
      rw [hn, signalbenchref14_Split.l1, if_pos (by omega), if_pos (by simp at ho; omega), next_f ts (by omega) _ _ k (by simp at hk; omega), Option.bind_some]
      refine cut_l1 l ts hts hl i hi e R K hK us t (out ++ [⟨e.f0, f1, t, e.f3, e.f4, e.f5, e.f6⟩]) k hs'.2 (fun a => ?_) (by simp at ho ⊢; omega) (fun k hk => ?_) (by simp at hk; omega)
      · constructor
        · rintro ⟨g1, g2, g3⟩
          have := (hm a).1 ⟨g1, by omega, g3⟩
          rcases List.mem_cons.1 this.1 with rfl | g4
          · omega
          · exact ⟨g4, g2, g3⟩
        · rintro ⟨g1, g2, g3⟩
          exact ⟨((hm a).2 ⟨List.mem_cons_of_mem _ g1, by omega, g3⟩).1, g2, g3⟩
      · have := hR k hk
        rw [cutE, if_neg c] at this
        rw [List.append_assoc]
        exact this
theorem rsplit_loop (l : List S48) (ts : List Int) (hts : ts.length ≤ 200) (hl : l.length ≤ 200) : ∀ (m i : Nat) (out : List S48), l.length - i = m → i ≤ l.length → out.length ≤ i * 1001 →
    ∃ K, 300 ≤ K ∧ ∀ k, K ≤ k → signalbenchref14_Split.l0 k l ts out (i : Int) = some (out ++ (l.drop i).flatMap fun e => partsE e (isort ts)) := by
  intro m
  induction m with
  | zero =>
    intro i out h1 h2 h3
    refine ⟨300, Nat.le_refl _, fun k hk => ?_⟩
    obtain ⟨k, rfl⟩ : ∃ q, k = q + 1 := ⟨k - 1, by omega⟩
    rw [signalbenchref14_Split.l0, if_neg (by omega), List.drop_eq_nil_of_le (by omega)]
    simp
  | succ m ih =>
    intro i out h1 h2 h3
    have hi : i < l.length := by omega
    have hpl := partsE_len l[i] (isort ts)
    have hsl := isort_len ts
    obtain ⟨K, hK, hR⟩ := ih (i + 1) (out ++ partsE l[i] (isort ts)) (by omega) (by omega) (by rw [List.length_append]; omega)
    have hres : out ++ (l.drop i).flatMap (fun e => partsE e (isort ts)) = (out ++ partsE l[i] (isort ts)) ++ (l.drop (i + 1)).flatMap fun e => partsE e (isort ts) := by
      rw [List.drop_eq_getElem_cons hi, List.flatMap_cons, List.append_assoc]
    refine ⟨K + 300, by omega, fun k hk => ?_⟩
    obtain ⟨k, rfl⟩ : ∃ q, k = q + 1 := ⟨k - 1, by omega⟩
    rw [hres, signalbenchref14_Split.l0, if_pos (by omega), if_pos (by omega), rd_at l i hi, rplain_f, Option.bind_some]
    by_cases c : plainB l[i] = true
    · rw [if_pos c, next_f ts (by omega) _ _ k (by omega), Option.bind_some]
      refine cut_l1 l ts hts hl i hi l[i] _ K hK (isort ts) l[i].f1 out k (isort_asc ts) (fun a => by rw [(isort_perm ts).mem_iff]) (by omega) (fun k hk => ?_) (by omega)
      have := hR k hk
      unfold partsE at this
      rw [if_pos c] at this
      unfold partsE
      rw [if_pos c]
      exact this
    · rw [if_neg c, if_pos (by omega), next_i i _ hi (by omega)]
      have := hR k (by omega)
      unfold partsE at this
      rw [if_neg c] at this
      unfold partsE
      rw [if_neg c]
      exact this
theorem splits_pure (l : List S48) (ts : List Int) : ∃ k, signalbenchlaw14_FeedSplits.f k l ts = some true := by
  refine Ev.rounds (g := fun k => signalbenchlaw14_FeedSplits.f k l ts) ?_
  have yes : Ev (fun k => signalbenchlaw14_FeedSplits.j0 k l ts true) true := Ev.le 1 (fun k => by rw [signalbenchlaw14_FeedSplits.j0, if_pos rfl]; rfl)
  unfold signalbenchlaw14_FeedSplits.f
  by_cases c1 : (l.length : Int) > 200
  · simp only [if_pos c1]
    exact yes
  simp only [if_neg c1]
  by_cases c2 : (ts.length : Int) > 200
  · simp only [decide_eq_true c2]
    exact yes
  simp only [decide_eq_false c2]
  obtain ⟨K, _, hR⟩ := rsplit_loop l ts (by omega) (by omega) l.length 0 [] rfl (Nat.zero_le _) (Nat.zero_le _)
  have hf : feed_Split.f l ts = some (l.flatMap fun e => partsE e (isort ts)) := by
    unfold feed_Split.f
    rw [if_pos ⟨by omega, by omega⟩]
  have hlen := flat_len (isort ts) (by rw [isort_len]; omega) l
  refine Ev.step (f := fun k => (feed_Split.f l ts).bind fun t365 => ((signalbenchref14_Split.f k l ts).bind fun t368 => ((signalbenchref07_Same.f k t365 t368).bind fun t371 => (if t371 = true then ((signalbenchlaw14_awake.f).bind fun t372 => (some t372)) else (some false)))))
    (fun k => by rw [signalbenchlaw14_FeedSplits.j0, if_neg (by simp)]) ?_
  rw [hf]
  simp only [Option.bind_some]
  have href : Ev (fun k => signalbenchref14_Split.f k l ts) (l.flatMap fun e => partsE e (isort ts)) := ⟨K, fun k hk => by
    have := hR k hk
    rw [List.drop_zero, List.nil_append] at this
    exact this⟩
  refine href.bind ?_
  refine (same_ev _ (by omega)).bind ?_
  simp only [if_true]
  unfold signalbenchlaw14_awake.f
  exact Ev.now true
end Go.Proofs.Ytioedeglgljblaa.H
