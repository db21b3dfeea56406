/- SpanLists, in plain words, with all that it leans on; no condition. -/
import Derived.Test.YtejmegaalfblmaaHJoin
import Derived.Test.YtejmegaalfblmaaH9
import Derived.Test.YtejmegaalfblmaaH22
import Derived.Test.YtejmegaalfblmaaH5
import Derived.Test.YtejmegaalfblmaaH4
import Derived.Test.YtejmegaalfblmaaH6
import Derived.Test.YtejmegaalfblmaaH17
import Derived.Test.YtejmegaalfblmaaH23
import Derived.Test.YtejmegaalfblmaaH24
import Derived.Test.YtejmegaalfblmaaH28
namespace Go.Proofs.Ytejmegaalfblmaa.H
open Go.RowKit Go.Proofs.YtejmegaalfblmaaW.PrintWords Go.Proofs.YtejmegaalfblmaaW.PrintLast Go.Proofs.YtejmegaalfblmaaW.PrintMore
set_option linter.unusedSimpArgs false
theorem Ev.le {α : Type} {g : Nat → Option α} {r : α} (n : Nat) (h : ∀ k, g (k + n) = some r) : Ev g r :=
  ⟨n, fun k hk => by
    obtain ⟨m, rfl⟩ : ∃ m, k = m + n := ⟨k - n, by omega⟩
    exact h m⟩
def holdB (s : S25) (t : Int) : Bool := vld s.f0 s.f1 && (decide (s.f0 ≤ t) && decide (t < s.f1))
theorem holdB_iff {s : S25} {t : Int} : holdB s t = true ↔ vld s.f0 s.f1 = true ∧ s.f0 ≤ t ∧ t < s.f1 := by simp [holdB]
/-- the first span from i on that holds a tick -/
def findS (t : Int) : Nat → List S25 → Int
 | _, [] => -1
 | i, s :: l => if holdB s t = true then (i : Int) else findS t (i + 1) l
theorem findS_none {t : Int} : ∀ (l : List S25) (i : Nat), ¬ Cov l t → findS t i l = -1
  | [], _, _ => rfl
  | s :: l, i, h => by
    unfold findS
    rw [if_neg (fun c => h ⟨s, List.mem_cons_self, holdB_iff.1 c⟩)]
    exact findS_none l (i + 1) (fun ⟨u, hu, hh⟩ => h ⟨u, List.mem_cons_of_mem _ hu, hh⟩)
theorem findS_some {t : Int} : ∀ (l : List S25) (i : Nat), Cov l t → (i : Int) ≤ findS t i l ∧ findS t i l < i + l.length
  | [], _, h => by
    obtain ⟨s, hs, _⟩ := h
    simp at hs
  | s :: l, i, h => by
    unfold findS
    by_cases c : holdB s t = true
    · rw [if_pos c]
      simp only [List.length_cons]
      omega
    · rw [if_neg c]
      have := findS_some l (i + 1) (by
        obtain ⟨u, hu, hh⟩ := h
        rcases List.mem_cons.1 hu with rfl | hu
        · exact absurd (holdB_iff.2 hh) c
        · exact ⟨u, hu, hh⟩)
      simp only [List.length_cons]
      omega
theorem findS_nonneg {t : Int} (l : List S25) : 0 ≤ findS t 0 l ↔ Cov l t := by
  constructor
  · intro h
    apply Classical.byContradiction
    intro c
    rw [findS_none l 0 c] at h
    omega
  · intro h
    have := findS_some l 0 h
    omega
theorem joinS_len : ∀ (l out : List S25), (l.foldl stepJ out).length ≤ out.length + l.length
  | [], out => by simp
  | s :: l, out => by
    have h := joinS_len l (stepJ out s)
    have h2 : (stepJ out s).length ≤ out.length + 1 := by
      rcases List.eq_nil_or_concat out with rfl | ⟨a, z, rfl⟩
      · simp [stepJ]
      · unfold stepJ
        rw [List.concat_eq_append, List.getLast?_concat]
        simp only [List.dropLast_concat]
        split <;> simp
    simp only [List.foldl_cons, List.length_cons]
    omega
theorem insS_len (s : S25) : ∀ l, (insS s l).length = l.length + 1
  | [] => rfl
  | t :: l => by
    unfold insS
    split
    · rfl
    · simp [insS_len s l]
theorem sortS_len : ∀ l, (sortS l).length = l.length
  | [] => rfl
  | s :: l => by rw [sortS, insS_len, sortS_len l]; rfl
theorem join_len (l : List S25) : (joinS (sortS (validS l))).length ≤ l.length := by
  have h := joinS_len (sortS (validS l)) []
  have h2 := sortS_len (validS l)
  have h3 : (validS l).length ≤ l.length := List.length_filter_le _ _
  unfold joinS
  simp only [List.length_nil] at h
  omega
/-- the join of a list -/
def unionS (l : List S25) : List S25 := joinS (sortS (validS l))
theorem union_norm (l : List S25) : Norm (unionS l) := (join_of (l := l) (d := sortS (validS l)) (fun x => mem_sortS x _) (asc_sortS _)).1
theorem union_cov (l : List S25) (t : Int) : Cov (unionS l) t ↔ Cov l t := (join_of (l := l) (d := sortS (validS l)) (fun x => mem_sortS x _) (asc_sortS _)).2 t
theorem join_f (l : List S25) (h : l.length ≤ 1000000) : span_Join.f l = some (unionS l) := by
  unfold span_Join.f
  rw [if_pos h]
  rfl
theorem contains_f (a b t : Int) : span_contains.f a b t = some (holdB ⟨a, b⟩ t) := by
  unfold span_contains.f holdB
  rw [valid_f, Option.bind_some]
  show _ = some (vld a b && (decide (a ≤ t) && decide (t < b)))
  by_cases h1 : vld a b = true
  · rw [if_pos h1, h1]
    by_cases h2 : a ≤ t <;> simp [h2]
  · rw [if_neg h1, Bool.eq_false_iff.2 h1]
    rfl
theorem find_loop (l : List S25) (hl : l.length ≤ 1000000000) (t : Int) : ∀ (m i : Nat) (k : Nat), l.length - i = m → i ≤ l.length → m + 1 ≤ k →
    span_Find.l0 k t l (l.length : Int) (i : Int) = some (findS t i (l.drop i)) := by
  intro m
  induction m with
  | zero =>
    intro i k h1 h2 hk
    obtain ⟨k, rfl⟩ : ∃ q, k = q + 1 := ⟨k - 1, by omega⟩
    rw [span_Find.l0, if_neg (by omega), List.drop_eq_nil_of_le (by omega)]
    rfl
  | succ m ih =>
    intro i k h1 h2 hk
    obtain ⟨k, rfl⟩ : ∃ q, k = q + 1 := ⟨k - 1, by omega⟩
    have hi : i < l.length := by omega
    have hw : wrap64 ((i : Int) + 1) = ((i + 1 : Nat) : Int) := by rw [wrap_id (by omega) (by omega)]; rfl
    rw [span_Find.l0, if_pos (by omega), if_pos (by omega), if_pos (by omega), rd_at l i hi, hw, List.drop_eq_getElem_cons hi, contains_f, Option.bind_some, findS]
    by_cases c : holdB l[i] t = true
    · rw [if_pos c, if_pos c]
    · rw [if_neg c, if_neg (show ¬ holdB ⟨l[i].f0, l[i].f1⟩ t = true from c)]
      exact ih (i + 1) k (by omega) (by omega) (by omega)
theorem find_ev (l : List S25) (hl : l.length ≤ 1000000000) (t : Int) : Ev (fun k => span_Find.f k l t) (findS t 0 l) :=
  ⟨l.length + 1, fun k hk => find_loop l hl t l.length 0 k rfl (Nat.zero_le _) (by omega)⟩
theorem rvalid_f (a b : Int) : signalbenchref06_Valid.f a b = some (vld a b) := by
  unfold signalbenchref06_Valid.f vld
  by_cases h1 : a ≥ 0
  · have h1' : 0 ≤ a := h1
    by_cases h2 : a < b <;> simp [h1', h2]
  · have h1' : ¬ 0 ≤ a := h1
    simp [h1']
theorem holds_f (a b t : Int) : signalbenchref06_holds.f a b t = some (holdB ⟨a, b⟩ t) := by
  unfold signalbenchref06_holds.f holdB
  rw [rvalid_f, Option.bind_some]
  show _ = some (vld a b && (decide (a ≤ t) && decide (t < b)))
  by_cases h1 : vld a b = true
  · rw [if_pos h1, h1]
    by_cases h2 : a ≤ t <;> simp [h2]
  · rw [if_neg h1, Bool.eq_false_iff.2 h1]
    rfl
theorem rfind_loop (l : List S25) (hl : l.length ≤ 1000000000) (t : Int) : ∀ (m i : Nat) (k : Nat), l.length - i = m → i ≤ l.length → m + 1 ≤ k →
    signalbenchref06_Find.l0 k l t (i : Int) = some (findS t i (l.drop i)) := by
  intro m
  induction m with
  | zero =>
    intro i k h1 h2 hk
    obtain ⟨k, rfl⟩ : ∃ q, k = q + 1 := ⟨k - 1, by omega⟩
    rw [signalbenchref06_Find.l0, if_neg (by omega), List.drop_eq_nil_of_le (by omega)]
    rfl
  | succ m ih =>
    intro i k h1 h2 hk
    obtain ⟨k, rfl⟩ : ∃ q, k = q + 1 := ⟨k - 1, by omega⟩
    have hi : i < l.length := by omega
    have hw : wrap64 ((i : Int) + 1) = ((i + 1 : Nat) : Int) := by rw [wrap_id (by omega) (by omega)]; rfl
    rw [signalbenchref06_Find.l0, if_pos (by omega), if_pos (by omega), rd_at l i hi, hw, List.drop_eq_getElem_cons hi, holds_f, Option.bind_some, findS]
    by_cases c : holdB l[i] t = true
    · rw [if_pos c, if_pos c]
    · rw [if_neg c, if_neg (show ¬ holdB ⟨l[i].f0, l[i].f1⟩ t = true from c)]
      exact ih (i + 1) k (by omega) (by omega) (by omega)
theorem rfind_ev (l : List S25) (hl : l.length ≤ 1000000000) (t : Int) : Ev (fun k => signalbenchref06_Find.f k l t) (findS t 0 l) :=
  ⟨l.length + 1, fun k hk => rfind_loop l hl t l.length 0 k rfl (Nat.zero_le _) (by omega)⟩
theorem same_loop (l : List S25) (hl : l.length ≤ 1000000000) : ∀ (m i : Nat) (k : Nat), l.length - i = m → i ≤ l.length → m + 1 ≤ k →
    signalbenchlaw06_same.l0 k l l (i : Int) = some true := by
  intro m
  induction m with
  | zero =>
    intro i k h1 h2 hk
    obtain ⟨k, rfl⟩ : ∃ q, k = q + 1 := ⟨k - 1, by omega⟩
    rw [signalbenchlaw06_same.l0, if_neg (by omega)]
  | succ m ih =>
    intro i k h1 h2 hk
    obtain ⟨k, rfl⟩ : ∃ q, k = q + 1 := ⟨k - 1, by omega⟩
    have hi : i < l.length := by omega
    have hw : wrap64 ((i : Int) + 1) = ((i + 1 : Nat) : Int) := by rw [wrap_id (by omega) (by omega)]; rfl
    rw [signalbenchlaw06_same.l0, if_pos (by omega), if_pos (by omega), if_pos (by omega), hw, if_neg (by simp)]
    exact ih (i + 1) k (by omega) (by omega) (by omega)
theorem same_ev (l : List S25) (hl : l.length ≤ 1000000000) : Ev (fun k => signalbenchlaw06_same.f k l l) true :=
  ⟨l.length + 1, fun k hk => by
    show signalbenchlaw06_same.f k l l = _
    unfold signalbenchlaw06_same.f
    rw [if_pos rfl]
    exact same_loop l hl l.length 0 k rfl (Nat.zero_le _) (by omega)⟩
theorem lives_f : signalbenchlaw06_lives.f = some true := by kernel_rfl
def sumS : List S25 → Int
 | [] => 0
 | s :: l => (s.f1 - s.f0) + sumS l
theorem sumS_le : ∀ (l : List S25) (a : Int), Norm l → (∀ s ∈ l, a ≤ s.f0) → a ≤ 1099511627776 → 0 ≤ sumS l ∧ sumS l ≤ 1099511627776 - a
  | [], a, _, _, h => by simp [sumS]; omega
  | s :: l, a, hn, ha, h => by
    have hs := vld_iff.1 (hn.2 s List.mem_cons_self)
    have h1 := ha s List.mem_cons_self
    have := sumS_le l s.f1 (norm_tail hn) (fun u hu => by have := norm_head hn u hu; omega) (by omega)
    unfold sumS
    omega
theorem norm_bounds {l : List S25} (hn : Norm l) {s : S25} (hs : s ∈ l) : 0 ≤ s.f0 ∧ s.f0 < s.f1 ∧ s.f1 ≤ 1099511627776 := vld_iff.1 (hn.2 s hs)
theorem norm_drop {l : List S25} (hn : Norm l) (i : Nat) : Norm (l.drop i) := ⟨hn.1.sublist (List.drop_sublist i l), fun s hs => hn.2 s (List.mem_of_mem_drop hs)⟩
theorem sumS_pos {l : List S25} (hn : Norm l) : 0 ≤ sumS l ∧ sumS l ≤ 1099511627776 := by
  have := sumS_le l 0 hn (fun s hs => (norm_bounds hn hs).1) (by omega)
  omega
theorem total_loop (l : List S25) (hl : l.length ≤ 1000000000) (hn : Norm l) : ∀ (m i : Nat) (k : Nat) (n : Int), l.length - i = m → i ≤ l.length → 0 ≤ n → n + sumS (l.drop i) ≤ 1099511627776 → m + 1 ≤ k →
    span_Total.l0 k n l (l.length : Int) (i : Int) = some (n + sumS (l.drop i)) := by
  intro m
  induction m with
  | zero =>
    intro i k n h1 h2 _ _ hk
    obtain ⟨k, rfl⟩ : ∃ q, k = q + 1 := ⟨k - 1, by omega⟩
    rw [span_Total.l0, if_neg (by omega), List.drop_eq_nil_of_le (by omega)]
    simp [sumS]
  | succ m ih =>
    intro i k n h1 h2 h3 h4 hk
    obtain ⟨k, rfl⟩ : ∃ q, k = q + 1 := ⟨k - 1, by omega⟩
    have hi : i < l.length := by omega
    have hw : wrap64 ((i : Int) + 1) = ((i + 1 : Nat) : Int) := by rw [wrap_id (by omega) (by omega)]; rfl
    have hd : l.drop i = l[i] :: l.drop (i + 1) := List.drop_eq_getElem_cons hi
    have hs := norm_bounds hn (List.getElem_mem hi)
    have hp := (sumS_pos (norm_drop hn (i + 1))).1
    rw [hd] at h4
    unfold sumS at h4
    rw [span_Total.l0, if_pos (by omega), if_pos (by omega), if_pos (by omega), rd_at l i hi, hw, hd, wrap_id (x := l[i].f1 - l[i].f0) (by omega) (by omega), wrap_id (by omega) (by omega), ih (i + 1) k _ (by omega) (by omega) (by omega) (by omega) (by omega)]
    congr 1
    rw [sumS]
    omega
theorem total_ev (l : List S25) (hl : l.length ≤ 1000000) : Ev (fun k => span_Total.f k l) (sumS (unionS l)) :=
  ⟨(unionS l).length + 1, fun k hk => by
    have hj : (unionS l).length ≤ 1000000 := Nat.le_trans (join_len l) hl
    have hp := sumS_pos (union_norm l)
    show span_Total.f k l = _
    unfold span_Total.f
    rw [join_f l hl, Option.bind_some]
    have := total_loop (unionS l) (by omega) (union_norm l) (unionS l).length 0 k 0 rfl (Nat.zero_le _) (by omega) (by rw [List.drop_zero]; omega) (by omega)
    rw [List.drop_zero] at this
    refine Eq.trans this ?_
    congr 1
    omega⟩
theorem common_f (a b c d : Int) : span_Common.f a b c d = some (if vld a b = true ∧ vld c d = true ∧ max a c < min b d then (max a c, min b d, true) else (0, 0, false)) := by
  have e1 : mx a c = max a c := by unfold mx; omega
  have e2 : mn b d = min b d := by unfold mn; omega
  unfold span_Common.f
  rw [e1, e2]
  by_cases h1 : vld a b = true
  · by_cases h2 : vld c d = true
    · have h1' := vld_iff.1 h1
      have h2' := vld_iff.1 h2
      by_cases h3 : max a c < min b d
      · rw [if_pos, if_pos ⟨h1, h2, h3⟩]
        rw [h1, h2, Bool.true_and, Bool.true_and]
        exact vld_iff.2 ⟨by omega, h3, by omega⟩
      · rw [if_neg, if_neg (fun c => h3 c.2.2)]
        rw [h1, h2, Bool.true_and, Bool.true_and]
        exact fun c => h3 (vld_iff.1 c).2.1
    · rw [if_neg (by simp [h2]), if_neg (fun c => h2 c.2.1)]
  · rw [if_neg (by simp [h1]), if_neg (fun c => h1 c.1)]
/-- the gaps from a tick on -/
def gapR (a0 a1 : Int) : Int → List S25 → List S25
 | a, [] => if a < a1 then [⟨a, a1⟩] else []
 | a, s :: l => if max s.f0 a0 < min s.f1 a1 then (if a < max s.f0 a0 then ⟨a, max s.f0 a0⟩ :: gapR a0 a1 (min s.f1 a1) l else gapR a0 a1 (min s.f1 a1) l) else gapR a0 a1 a l
theorem cov_nil (t : Int) : ¬ Cov [] t := fun ⟨_, h, _⟩ => by simp at h
theorem cov_cons (s : S25) (l : List S25) (t : Int) : Cov (s :: l) t ↔ (vld s.f0 s.f1 = true ∧ s.f0 ≤ t ∧ t < s.f1) ∨ Cov l t := by
  rw [show s :: l = [s] ++ l from rfl, cov_append, cov_one]
theorem gapR_law (a0 a1 : Int) (h0 : 0 ≤ a0) (h1 : a1 ≤ 1099511627776) : ∀ (l : List S25) (a : Int), Norm l → a0 ≤ a → a ≤ a1 → (a = a0 ∨ ∀ s ∈ l, a < s.f0) →
    Norm (gapR a0 a1 a l) ∧ (∀ x ∈ gapR a0 a1 a l, a ≤ x.f0 ∧ x.f1 ≤ a1) ∧ ∀ t, Cov (gapR a0 a1 a l) t ↔ a ≤ t ∧ t < a1 ∧ ¬ Cov l t
  | [], a, _, ha, hb, _ => by
    unfold gapR
    by_cases c : a < a1
    · rw [if_pos c]
      have hv : vld a a1 = true := vld_iff.2 ⟨by omega, c, h1⟩
      refine ⟨⟨List.pairwise_singleton _ _, fun x hx => by rw [List.mem_singleton.1 hx]; exact hv⟩, fun x hx => by rw [List.mem_singleton.1 hx]; exact ⟨Int.le_refl _, Int.le_refl _⟩, fun t => ?_⟩
      rw [cov_one]
      simp only [hv, true_and]
      exact ⟨fun h => ⟨h.1, h.2, cov_nil t⟩, fun h => ⟨h.1, h.2.1⟩⟩
    · rw [if_neg c]
      exact ⟨⟨List.Pairwise.nil, fun x hx => by simp at hx⟩, fun x hx => by simp at hx, fun t => ⟨fun h => absurd h (cov_nil t), fun h => by omega⟩⟩
  | s :: l, a, hn, ha, hb, hab => by
    have hs := vld_iff.1 (hn.2 s List.mem_cons_self)
    unfold gapR
    by_cases c : max s.f0 a0 < min s.f1 a1
    · rw [if_pos c]
      obtain ⟨i1, i2, i3⟩ := gapR_law a0 a1 h0 h1 l (min s.f1 a1) (norm_tail hn) (by omega) (by omega) (.inr (fun u hu => by have := norm_head hn u hu; omega))
      have hlow : ∀ t, t < min s.f1 a1 → ¬ Cov l t := by
        rintro t ht ⟨u, hu, _, hh, _⟩
        have := norm_head hn u hu
        omega
      have key : ∀ t, (min s.f1 a1 ≤ t ∧ t < a1 ∧ ¬ Cov l t) ∨ (a ≤ t ∧ t < max s.f0 a0) ↔ (min s.f1 a1 ≤ t ∧ t < a1 ∧ ¬ Cov l t) ∨ (a ≤ t ∧ t < max s.f0 a0 ∧ t < min s.f1 a1) := by
        intro t
        constructor
        · rintro (h | h)
          · exact .inl h
          · exact .inr ⟨h.1, h.2, by omega⟩
        · rintro (h | h)
          · exact .inl h
          · exact .inr ⟨h.1, h.2.1⟩
      have main : ∀ t, (a ≤ t ∧ t < a1 ∧ ¬ Cov (s :: l) t) → (min s.f1 a1 ≤ t ∧ t < a1 ∧ ¬ Cov l t) ∨ (a ≤ t ∧ t < max s.f0 a0) := by
        rintro t ⟨g1, g2, g3⟩
        rw [cov_cons] at g3
        have g4 : ¬ Cov l t := fun x => g3 (.inr x)
        by_cases c2 : min s.f1 a1 ≤ t
        · exact .inl ⟨c2, g2, g4⟩
        · refine .inr ⟨g1, ?_⟩
          apply Classical.byContradiction
          intro c3
          exact g3 (.inl ⟨hn.2 s List.mem_cons_self, by omega, by omega⟩)
      have back : ∀ t, (a ≤ min s.f1 a1) → (min s.f1 a1 ≤ t ∧ t < a1 ∧ ¬ Cov l t) → (a ≤ t ∧ t < a1 ∧ ¬ Cov (s :: l) t) := by
        rintro t g0 ⟨g1, g2, g3⟩
        refine ⟨by omega, g2, fun g4 => ?_⟩
        rcases (cov_cons _ _ _).1 g4 with ⟨_, g5, g6⟩ | g5
        · omega
        · exact g3 g5
      by_cases c2 : a < max s.f0 a0
      · rw [if_pos c2]
        have hv : vld a (max s.f0 a0) = true := vld_iff.2 ⟨by omega, c2, by omega⟩
        refine ⟨⟨List.pairwise_cons.2 ⟨fun x hx => ?_, i1.1⟩, fun x hx => ?_⟩, fun x hx => ?_, fun t => ?_⟩
        · have := (i2 x hx).1
          show max s.f0 a0 < x.f0
          omega
        · rcases List.mem_cons.1 hx with rfl | hx
          · exact hv
          · exact i1.2 x hx
        · rcases List.mem_cons.1 hx with rfl | hx
          · exact ⟨Int.le_refl _, by show max s.f0 a0 ≤ a1; omega⟩
          · have := i2 x hx
            omega
        · rw [cov_cons, i3]
          simp only [hv, true_and]
          constructor
          · rintro (g | g)
            · refine ⟨g.1, by omega, fun g4 => ?_⟩
              rcases (cov_cons _ _ _).1 g4 with ⟨_, g5, g6⟩ | g5
              · omega
              · exact hlow t (by omega) g5
            · exact back t (by omega) g
          · intro g
            exact (main t g).symm
      · rw [if_neg c2]
        by_cases c3 : a ≤ min s.f1 a1
        · refine ⟨i1, fun x hx => by have := i2 x hx; omega, fun t => ?_⟩
          rw [i3]
          constructor
          · exact back t c3
          · intro g
            rcases main t g with g | g
            · exact g
            · omega
        · exfalso
          rcases hab with rfl | hab
          · omega
          · have := hab s List.mem_cons_self
            omega
    · rw [if_neg c]
      obtain ⟨i1, i2, i3⟩ := gapR_law a0 a1 h0 h1 l a (norm_tail hn) ha hb (hab.imp id (fun h u hu => h u (List.mem_cons_of_mem _ hu)))
      refine ⟨i1, i2, fun t => ?_⟩
      rw [i3, cov_cons]
      constructor
      · rintro ⟨g1, g2, g3⟩
        refine ⟨g1, g2, fun g => ?_⟩
        rcases g with ⟨_, g4, g5⟩ | g
        · omega
        · exact g3 g
      · rintro ⟨g1, g2, g3⟩
        exact ⟨g1, g2, fun g => g3 (.inr g)⟩

theorem gaps_loop (l : List S25) (hl : l.length ≤ 1000000) (hn : Norm l) (a0 a1 : Int) (hv : vld a0 a1 = true) : ∀ (m i : Nat) (k : Nat) (out : List S25) (a : Int), l.length - i = m → i ≤ l.length → out.length ≤ i → m + 1 ≤ k →
    span_Gaps.l0 k out a l (l.length : Int) (i : Int) a0 a1 = some (out ++ gapR a0 a1 a (l.drop i)) := by
  intro m
  induction m with
  | zero =>
    intro i k out a h1 h2 h3 hk
    obtain ⟨k, rfl⟩ : ∃ q, k = q + 1 := ⟨k - 1, by omega⟩
    rw [span_Gaps.l0, if_neg (by omega), List.drop_eq_nil_of_le (by omega), gapR]
    by_cases c : a < a1
    · rw [if_pos c, if_pos c, if_pos (by omega)]
    · rw [if_neg c, if_neg c, List.append_nil]
  | succ m ih =>
    intro i k out a h1 h2 h3 hk
    obtain ⟨k, rfl⟩ : ∃ q, k = q + 1 := ⟨k - 1, by omega⟩
    have hi : i < l.length := by omega
    have hw : wrap64 ((i : Int) + 1) = ((i + 1 : Nat) : Int) := by rw [wrap_id (by omega) (by omega)]; rfl
    have hd : l.drop i = l[i] :: l.drop (i + 1) := List.drop_eq_getElem_cons hi
    have hvi : vld l[i].f0 l[i].f1 = true := hn.2 _ (List.getElem_mem hi)
    by_cases c : max l[i].f0 a0 < min l[i].f1 a1
    · have hcf : span_Common.f l[i].f0 l[i].f1 a0 a1 = some (max l[i].f0 a0, min l[i].f1 a1, true) := by rw [common_f, if_pos ⟨hvi, hv, c⟩]
      rw [span_Gaps.l0, if_pos (by omega), if_pos (by omega), if_pos (by omega), rd_at l i hi, hw, hd, hcf, Option.bind_some, gapR, if_pos c, if_pos rfl]
      show (if a < max l[i].f0 a0 then _ else _) = _
      by_cases c2 : a < max l[i].f0 a0
      · rw [if_pos c2, if_pos c2, if_pos (by omega), ih (i + 1) k _ _ (by omega) (by omega) (by simp; omega) (by omega), List.append_assoc]
        rfl
      · rw [if_neg c2, if_neg c2, ih (i + 1) k _ _ (by omega) (by omega) (by omega) (by omega)]
    · have hcf : span_Common.f l[i].f0 l[i].f1 a0 a1 = some (0, 0, false) := by rw [common_f, if_neg (fun h => c h.2.2)]
      rw [span_Gaps.l0, if_pos (by omega), if_pos (by omega), if_pos (by omega), rd_at l i hi, hw, hd, hcf, Option.bind_some, gapR, if_neg c, if_neg (by simp)]
      exact ih (i + 1) k _ _ (by omega) (by omega) (by omega) (by omega)
/-- the gaps of a list in a span -/
def gapsS (l : List S25) (a0 a1 : Int) : List S25 := if vld a0 a1 = true then gapR a0 a1 a0 (unionS l) else []
theorem gaps_ev (l : List S25) (hl : l.length ≤ 1000000) (a0 a1 : Int) : Ev (fun k => span_Gaps.f k l a0 a1) (gapsS l a0 a1) :=
  ⟨(unionS l).length + 1, fun k hk => by
    have hj : (unionS l).length ≤ 1000000 := Nat.le_trans (join_len l) hl
    show span_Gaps.f k l a0 a1 = _
    unfold span_Gaps.f gapsS
    rw [valid_f, Option.bind_some]
    by_cases hv : vld a0 a1 = true
    · rw [if_pos hv, if_pos hv, join_f l hl, Option.bind_some]
      have := gaps_loop (unionS l) hj (union_norm l) a0 a1 hv (unionS l).length 0 k [] a0 rfl (Nat.zero_le _) (Nat.zero_le _) (by omega)
      rw [List.drop_zero, List.nil_append] at this
      exact this
    · rw [if_neg hv, if_neg hv]⟩
theorem gaps_law (l : List S25) (a0 a1 : Int) : Norm (gapsS l a0 a1) ∧ (∀ x ∈ gapsS l a0 a1, a0 ≤ x.f0 ∧ x.f1 ≤ a1) ∧ ∀ t, Cov (gapsS l a0 a1) t ↔ vld a0 a1 = true ∧ a0 ≤ t ∧ t < a1 ∧ ¬ Cov l t := by
  unfold gapsS
  by_cases hv : vld a0 a1 = true
  · have hv' := vld_iff.1 hv
    rw [if_pos hv]
    obtain ⟨h1, h2, h3⟩ := gapR_law a0 a1 (by omega) (by omega) (unionS l) a0 (union_norm l) (Int.le_refl _) (by omega) (.inl rfl)
    refine ⟨h1, h2, fun t => ?_⟩
    rw [h3, union_cov]
    exact ⟨fun h => ⟨hv, h⟩, fun h => h.2⟩
  · rw [if_neg hv]
    exact ⟨⟨List.Pairwise.nil, fun x hx => by simp at hx⟩, fun x hx => by simp at hx, fun t => ⟨fun h => absurd h (cov_nil t), fun h => absurd h.1 hv⟩⟩
theorem gapR_len (a0 a1 : Int) : ∀ (l : List S25) (a : Int), (gapR a0 a1 a l).length ≤ l.length + 1
  | [], a => by
    unfold gapR
    split <;> simp
  | s :: l, a => by
    have i1 := gapR_len a0 a1 l (min s.f1 a1)
    have i2 := gapR_len a0 a1 l a
    unfold gapR
    simp only [List.length_cons]
    split
    · split
      · simp only [List.length_cons]
        omega
      · omega
    · omega
theorem gaps_len (l : List S25) (a0 a1 : Int) : (gapsS l a0 a1).length ≤ l.length + 1 := by
  unfold gapsS
  split
  · have := gapR_len a0 a1 (unionS l) a0
    have : (unionS l).length ≤ l.length := join_len l
    omega
  · simp
/-- best is a bound beyond a tick, and the least one of a list (or there is none: -1) -/
def Best (l : List S25) (a b : Int) : Prop := (b = -1 ∧ ∀ s ∈ l, vld s.f0 s.f1 = true → s.f0 ≤ a ∧ s.f1 ≤ a) ∨ (a < b ∧ 0 ≤ b ∧ ∀ s ∈ l, vld s.f0 s.f1 = true → (a < s.f0 → b ≤ s.f0) ∧ (a < s.f1 → b ≤ s.f1))
theorem Best.skip {l : List S25} {a b : Int} {s : S25} (h : Best l a b) (hs : vld s.f0 s.f1 = true → False) : Best (l ++ [s]) a b := by
  rcases h with ⟨h1, h2⟩ | ⟨h1, h0, h2⟩
  · refine .inl ⟨h1, fun u hu hv => ?_⟩
    rcases List.mem_append.1 hu with hu | hu
    · exact h2 u hu hv
    · rw [List.mem_singleton.1 hu] at hv
      exact (hs hv).elim
  · refine .inr ⟨h1, h0, fun u hu hv => ?_⟩
    rcases List.mem_append.1 hu with hu | hu
    · exact h2 u hu hv
    · rw [List.mem_singleton.1 hu] at hv
      exact (hs hv).elim
/-- the next best -/
def better (a b x : Int) : Int := if a < x ∧ (b < 0 ∨ x < b) then x else b
theorem better_yes {a b x : Int} (h1 : a < x) (h2 : b < 0 ∨ x < b) : better a b x = x := if_pos ⟨h1, h2⟩
theorem better_no {a b x : Int} (h : ¬ (a < x ∧ (b < 0 ∨ x < b))) : better a b x = b := if_neg h
theorem Best.put {l : List S25} {a b : Int} {s : S25} (h : Best l a b) (hv : vld s.f0 s.f1 = true) (ha : 0 ≤ a) : Best (l ++ [s]) a (better a (better a b s.f0) s.f1) := by
  have hv' := vld_iff.1 hv
  rcases h with ⟨h1, h2⟩ | ⟨h1, h0, h2⟩
  · subst h1
    by_cases c1 : a < s.f0
    · rw [better_yes (b := -1) c1 (.inl (by omega)), better_no (b := s.f0) (by omega)]
      refine .inr ⟨c1, by omega, fun u hu hvu => ?_⟩
      rcases List.mem_append.1 hu with hu | hu
      · have := h2 u hu hvu
        omega
      · rw [List.mem_singleton.1 hu]
        omega
    · rw [better_no (b := -1) (x := s.f0) (fun h => c1 h.1)]
      by_cases c2 : a < s.f1
      · rw [better_yes c2 (.inl (by omega))]
        refine .inr ⟨c2, by omega, fun u hu hvu => ?_⟩
        rcases List.mem_append.1 hu with hu | hu
        · have := h2 u hu hvu
          omega
        · rw [List.mem_singleton.1 hu]
          omega
      · rw [better_no (fun h => c2 h.1)]
        refine .inl ⟨rfl, fun u hu hvu => ?_⟩
        rcases List.mem_append.1 hu with hu | hu
        · exact h2 u hu hvu
        · rw [List.mem_singleton.1 hu]
          omega
  · have key : ∀ b', b' ≤ b → a < b' → 0 ≤ b' → (a < s.f0 → b' ≤ s.f0) → (a < s.f1 → b' ≤ s.f1) → Best (l ++ [s]) a b' := by
      intro b' g1 g2 g3 g4 g5
      refine .inr ⟨g2, g3, fun u hu hvu => ?_⟩
      rcases List.mem_append.1 hu with hu | hu
      · have := h2 u hu hvu
        exact ⟨fun x => by have := this.1 x; omega, fun x => by have := this.2 x; omega⟩
      · rw [List.mem_singleton.1 hu]
        exact ⟨g4, g5⟩
    by_cases c1 : a < s.f0 ∧ (b < 0 ∨ s.f0 < b)
    · rw [better_yes c1.1 c1.2, better_no (b := s.f0) (by omega)]
      exact key _ (by omega) c1.1 (by omega) (fun _ => Int.le_refl _) (fun _ => by omega)
    · rw [better_no (x := s.f0) c1]
      by_cases c2 : a < s.f1 ∧ (b < 0 ∨ s.f1 < b)
      · rw [better_yes c2.1 c2.2]
        exact key _ (by omega) c2.1 (by omega) (fun _ => by omega) (fun _ => Int.le_refl _)
      · rw [better_no c2]
        exact key _ (Int.le_refl _) h1 h0 (fun _ => by omega) (fun _ => by omega)
theorem next_j1 (l : List S25) (k i : Nat) (a b : Int) (c : Bool) (hi : i < l.length) (hv : vld l[i].f0 l[i].f1 = true) (hc : c = decide (a < l[i].f0 ∧ (b < 0 ∨ l[i].f0 < b))) :
    signalbenchref06_next.j1 (k + 1) l a b (i : Int) c = signalbenchref06_next.l0 k l a (better a (better a b l[i].f0) l[i].f1) (wrap64 ((i : Int) + 1)) := by
  have hv' := vld_iff.1 hv
  rw [signalbenchref06_next.j1, rd_at l i hi, rvalid_f, hv]
  simp only [Option.bind_some, if_true]
  by_cases c1 : a < l[i].f0 ∧ (b < 0 ∨ l[i].f0 < b)
  · rw [better_yes c1.1 c1.2, better_no (b := l[i].f0) (by omega), hc, if_pos (decide_eq_true c1), if_pos (by omega), if_pos (by omega), if_pos (show l[i].f1 > a by omega), if_neg (by omega), if_neg (by omega)]
  · rw [better_no (x := l[i].f0) c1, hc, if_neg (by simpa using c1), if_pos (by omega), if_pos (by omega)]
    by_cases c2 : l[i].f1 > a
    · rw [if_pos c2]
      by_cases c3 : b < 0
      · rw [if_pos c3, better_yes c2 (.inl c3)]
      · rw [if_neg c3]
        by_cases c4 : l[i].f1 < b
        · rw [if_pos c4, better_yes c2 (.inr c4)]
        · rw [if_neg c4, better_no (by omega)]
    · rw [if_neg c2, better_no (by omega)]
theorem next_loop (l : List S25) (hl : l.length ≤ 1000000000) (a : Int) (ha : 0 ≤ a) : ∀ (m i : Nat) (k : Nat) (b : Int), l.length - i = m → i ≤ l.length → Best (l.take i) a b → 2 * m + 1 ≤ k →
    ∃ r, signalbenchref06_next.l0 k l a b (i : Int) = some r ∧ Best l a r := by
  intro m
  induction m with
  | zero =>
    intro i k b h1 h2 hb hk
    obtain ⟨k, rfl⟩ : ∃ q, k = q + 1 := ⟨k - 1, by omega⟩
    rw [List.take_of_length_le (by omega)] at hb
    exact ⟨b, by rw [signalbenchref06_next.l0, if_neg (by omega)], hb⟩
  | succ m ih =>
    intro i k b h1 h2 hb hk
    obtain ⟨k, rfl⟩ : ∃ q, k = q + 2 := ⟨k - 2, by omega⟩
    have hi : i < l.length := by omega
    have hw : wrap64 ((i : Int) + 1) = ((i + 1 : Nat) : Int) := by rw [wrap_id (by omega) (by omega)]; rfl
    have ht : l.take (i + 1) = l.take i ++ [l[i]] := by rw [List.take_succ_eq_append_getElem hi]
    rw [signalbenchref06_next.l0, if_pos (by omega), if_pos (by omega), rd_at l i hi, rvalid_f, Option.bind_some]
    by_cases hv : vld l[i].f0 l[i].f1 = true
    · rw [if_pos hv]
      have fin : ∀ c : Bool, c = decide (a < l[i].f0 ∧ (b < 0 ∨ l[i].f0 < b)) → ∃ r, signalbenchref06_next.j1 (k + 1) l a b (i : Int) c = some r ∧ Best l a r := by
        intro c hc
        rw [next_j1 l k i a b c hi hv hc, hw]
        exact ih (i + 1) k _ (by omega) (by omega) (by rw [ht]; exact hb.put hv ha) (by omega)
      by_cases c1 : l[i].f0 > a
      · rw [if_pos c1]
        by_cases c2 : b < 0
        · rw [if_pos c2]
          exact fin true (by simp [c2]; omega)
        · rw [if_neg c2]
          exact fin _ (by simp [c2]; omega)
      · rw [if_neg c1]
        exact fin false (by simp; omega)
    · rw [if_neg hv]
      have e : signalbenchref06_next.j1 (k + 1) l a b (i : Int) false = signalbenchref06_next.l0 k l a b (wrap64 ((i : Int) + 1)) := by
        rw [signalbenchref06_next.j1, rd_at l i hi, rvalid_f]
        simp only [Option.bind_some, Bool.false_eq_true, if_false]
        rw [if_pos (by omega), if_pos (by omega), if_neg hv]
      rw [e, hw]
      exact ih (i + 1) k b (by omega) (by omega) (by rw [ht]; exact hb.skip hv) (by omega)
theorem next_ev (l : List S25) (hl : l.length ≤ 1000000000) (a : Int) (ha : 0 ≤ a) : ∃ r, Ev (fun k => signalbenchref06_next.f k l a) r ∧ Best l a r := by
  obtain ⟨r, hr, hb⟩ := next_loop l hl a ha l.length 0 (2 * l.length + 1) (-1) rfl (Nat.zero_le _) (.inl ⟨rfl, fun s hs => by simp at hs⟩) (Nat.le_refl _)
  refine ⟨r, ⟨2 * l.length + 1, fun k hk => ?_⟩, hb⟩
  obtain ⟨r', hr', _⟩ := next_loop l hl a ha l.length 0 k (-1) rfl (Nat.zero_le _) (.inl ⟨rfl, fun s hs => by simp at hs⟩) hk
  have e : r' = r := by
    have := at_rounds (fun k => signalbenchref06_next.mono_l k |>.1 l a (-1) (0 : Int)) hk hr
    rw [show ((0 : Nat) : Int) = 0 from rfl] at hr'
    rw [hr'] at this
    exact Option.some.inj this
  rw [← e]
  exact hr'
theorem norm_len : ∀ (l : List S25) (b : Int), Norm l → (∀ x ∈ l, b ≤ x.f0) → ∀ a : Int, (∀ x ∈ l, x.f1 ≤ a) → b ≤ a → (l.length : Int) ≤ a - b
  | [], b, _, _, a, _, h => by simp; omega
  | s :: l, b, hn, hb, a, ha, h => by
    have hs := norm_bounds hn List.mem_cons_self
    have h1 := hb s List.mem_cons_self
    have h2 := ha s List.mem_cons_self
    have := norm_len l s.f1 (norm_tail hn) (fun x hx => by have := norm_head hn x hx; omega) a (fun x hx => ha x (List.mem_cons_of_mem _ hx)) h2
    simp only [List.length_cons]
    omega
theorem best_const {l : List S25} {a b e : Int} (h : Best l a b) (he : 0 ≤ b → e ≤ b) {t : Int} (h1 : a ≤ t) (h2 : t < e) : Cov l t ↔ Cov l a := by
  rcases h with ⟨hb, hh⟩ | ⟨hb, h0, hh⟩
  · constructor
    · rintro ⟨s, hs, hv, g1, g2⟩
      have := hh s hs hv
      omega
    · rintro ⟨s, hs, hv, g1, g2⟩
      have := hh s hs hv
      omega
  · have he' := he h0
    constructor
    · rintro ⟨s, hs, hv, g1, g2⟩
      have := hh s hs hv
      refine ⟨s, hs, hv, ?_, by omega⟩
      apply Classical.byContradiction
      intro c
      have := this.1 (by omega)
      omega
    · rintro ⟨s, hs, hv, g1, g2⟩
      have := hh s hs hv
      exact ⟨s, hs, hv, by omega, by have := this.2 g2; omega⟩
/-- one more piece -/
def piece (out : List S25) (a e : Int) : List S25 :=
  match out.getLast? with
  | none => [⟨a, e⟩]
  | some z => if z.f1 = a then out.dropLast ++ [⟨z.f0, e⟩] else out ++ [⟨a, e⟩]
theorem piece_law (out : List S25) (a e : Int) (hn : Norm out) (ho : ∀ x ∈ out, x.f1 ≤ a) (h0 : 0 ≤ a) (h1 : a < e) (h2 : e ≤ 1099511627776) :
    Norm (piece out a e) ∧ (∀ x ∈ piece out a e, x.f1 ≤ e) ∧ ∀ t, Cov (piece out a e) t ↔ Cov out t ∨ (a ≤ t ∧ t < e) := by
  have hv : vld a e = true := vld_iff.2 ⟨h0, h1, h2⟩
  rcases List.eq_nil_or_concat out with rfl | ⟨b, z, rfl⟩
  · unfold piece
    refine ⟨⟨List.pairwise_singleton _ _, fun x hx => by rw [List.mem_singleton.1 hx]; exact hv⟩, fun x hx => by rw [List.mem_singleton.1 hx]; exact Int.le_refl _, fun t => ?_⟩
    show Cov [⟨a, e⟩] t ↔ _
    rw [cov_one]
    simp only [hv, true_and]
    exact ⟨.inr, fun h => h.elim (fun h => absurd h (cov_nil t)) id⟩
  · rw [List.concat_eq_append] at *
    obtain ⟨hb, hz, hl⟩ := norm_snoc.1 hn
    have hz' := vld_iff.1 hz
    have hza := ho z (List.mem_append_right _ (List.mem_singleton.2 rfl))
    have hp : piece (b ++ [z]) a e = if z.f1 = a then b ++ [⟨z.f0, e⟩] else (b ++ [z]) ++ [⟨a, e⟩] := by
      unfold piece
      simp only [List.getLast?_concat, List.dropLast_concat]
    rw [hp]
    by_cases c : z.f1 = a
    · rw [if_pos c]
      have hv2 : vld z.f0 e = true := vld_iff.2 ⟨hz'.1, by omega, h2⟩
      refine ⟨norm_snoc.2 ⟨hb, hv2, hl⟩, fun x hx => ?_, fun t => ?_⟩
      · rcases List.mem_append.1 hx with hx | hx
        · have := ho x (List.mem_append_left _ hx)
          omega
        · rw [List.mem_singleton.1 hx]
          exact Int.le_refl _
      · rw [cov_append, cov_append, cov_one, cov_one]
        simp only [hv2, hz, true_and]
        constructor
        · rintro (g | g)
          · exact .inl (.inl g)
          · by_cases c2 : t < z.f1
            · exact .inl (.inr ⟨g.1, c2⟩)
            · exact .inr ⟨by omega, g.2⟩
        · rintro ((g | g) | g)
          · exact .inl g
          · exact .inr ⟨g.1, by omega⟩
          · exact .inr ⟨by omega, g.2⟩
    · rw [if_neg c]
      refine ⟨norm_snoc.2 ⟨hn, hv, fun x hx => ?_⟩, fun x hx => ?_, fun t => ?_⟩
      · show x.f1 < a
        rcases List.mem_append.1 hx with hx | hx
        · have := hl x hx
          omega
        · rw [List.mem_singleton.1 hx]
          omega
      · rcases List.mem_append.1 hx with hx | hx
        · have := ho x hx
          omega
        · rw [List.mem_singleton.1 hx]
          exact Int.le_refl _
      · rw [cov_append, cov_one]
        simp only [hv, true_and]
theorem cut_j2 (l : List S25) (k : Nat) (zz : Int) (cov : Bool) (out : List S25) (a e n : Int) (hf : signalbenchref06_Find.f k l a = some n) (ho : (out.length : Int) ≤ 1099511627776) :
    signalbenchref06_cut.j2 (k + 1) l zz cov out a e = signalbenchref06_cut.l0 k l zz cov (if (decide (n ≥ 0) == cov) = true then piece out a e else out) e := by
  rw [signalbenchref06_cut.j2, hf, Option.bind_some]
  by_cases c : (decide (n ≥ 0) == cov) = true
  · rw [if_pos c, if_pos c]
    rcases List.eq_nil_or_concat out with rfl | ⟨b, z, rfl⟩
    · rw [if_neg (by simp), if_pos (by simp)]
      rfl
    · rw [List.concat_eq_append] at *
      have hl : (b ++ [z]).length = b.length + 1 := by simp
      have hw2 : wrap64 (((b ++ [z]).length : Int) - 1) = (b.length : Int) := by rw [wrap_id (by omega) (by omega)]; omega
      have hz : rd_T25 (b ++ [z]) (b.length : Int) = z := by rw [rd_at _ _ (by omega)]; simp
      have hp : piece (b ++ [z]) a e = if z.f1 = a then b ++ [⟨z.f0, e⟩] else (b ++ [z]) ++ [⟨a, e⟩] := by
        unfold piece
        simp only [List.getLast?_concat, List.dropLast_concat]
      rw [hw2, hz, hp, if_pos (by omega), if_pos (by omega), if_pos (by omega)]
      by_cases c2 : z.f1 = a
      · rw [if_pos c2, if_pos c2, Int.toNat_natCast, List.set_append_right _ _ (Nat.le_refl _)]
        simp
      · rw [if_neg c2, if_neg c2, if_pos (by omega)]
  · rw [if_neg c, if_neg c]
theorem cut_ev (l : List S25) (hl : l.length ≤ 1000000000) (zz : Int) (hto : zz ≤ 1099511627776) (cov : Bool) : ∀ (n : Nat) (a : Int) (out : List S25), (zz - a).toNat ≤ n → 0 ≤ a → Norm out → (∀ x ∈ out, x.f1 ≤ a) → a ≤ 1099511627776 →
    ∃ r, Ev (fun k => signalbenchref06_cut.l0 k l zz cov out a) r ∧ Norm r ∧ ∀ t, Cov r t ↔ Cov out t ∨ (a ≤ t ∧ t < zz ∧ (Cov l t ↔ cov = true)) := by
  intro n
  induction n with
  | zero =>
    intro a out h1 h2 hn ho ha
    refine ⟨out, Ev.le 1 (fun k => by rw [signalbenchref06_cut.l0, if_neg (by omega)]), hn, fun t => ⟨.inl, fun h => h.elim id (fun h => by omega)⟩⟩
  | succ n ih =>
    intro a out h1 h2 hn ho ha
    by_cases c : a < zz
    · obtain ⟨b, hb, hB⟩ := next_ev l hl a h2
      obtain ⟨e, he⟩ : ∃ e, e = if b < 0 ∨ b > zz then zz else b := ⟨_, rfl⟩
      have hae : a < e := by
        rw [he]
        rcases hB with ⟨g, _⟩ | ⟨g, _⟩
        · rw [if_pos (by omega)]; exact c
        · split <;> omega
      have het : e ≤ zz := by
        rw [he]
        split <;> omega
      have heb : 0 ≤ b → e ≤ b := by
        intro g
        rw [he]
        split <;> omega
      have hlen := norm_len out 0 hn (fun x hx => (norm_bounds hn hx).1) a ho h2
      have hconst : ∀ t, a ≤ t → t < e → (Cov l t ↔ Cov l a) := fun t g1 g2 => best_const hB heb g1 g2
      have hfind := rfind_ev l hl a
      have hnn := findS_nonneg (t := a) l
      obtain ⟨m, hm⟩ : ∃ m, m = findS a 0 l := ⟨_, rfl⟩
      rw [← hm] at hfind hnn
      obtain ⟨out', ho'⟩ : ∃ o, o = if (decide (m ≥ 0) == cov) = true then piece out a e else out := ⟨_, rfl⟩
      obtain ⟨p1, p2, p3⟩ := piece_law out a e hn ho h2 hae (by omega)
      have hmatch : (decide (m ≥ 0) == cov) = true ↔ (Cov l a ↔ cov = true) := by
        rw [beq_iff_eq]
        constructor
        · intro g
          rw [← g, decide_eq_true_iff]
          exact hnn.symm
        · intro g
          by_cases g2 : 0 ≤ m
          · rw [decide_eq_true g2, g.1 (hnn.1 g2)]
          · rw [decide_eq_false g2]
            cases cov with
            | false => rfl
            | true => exact absurd (hnn.2 (g.2 rfl)) g2
      have q : Norm out' ∧ (∀ x ∈ out', x.f1 ≤ e) ∧ ∀ t, Cov out' t ↔ Cov out t ∨ (a ≤ t ∧ t < e ∧ (Cov l t ↔ cov = true)) := by
        by_cases cm : (decide (m ≥ 0) == cov) = true
        · rw [ho', if_pos cm]
          have cm' := hmatch.1 cm
          refine ⟨p1, p2, fun t => (p3 t).trans ?_⟩
          constructor
          · rintro (g | g)
            · exact .inl g
            · exact .inr ⟨g.1, g.2, (hconst t g.1 g.2).trans cm'⟩
          · rintro (g | g)
            · exact .inl g
            · exact .inr ⟨g.1, g.2.1⟩
        · rw [ho', if_neg cm]
          have cm' : ¬ (Cov l a ↔ cov = true) := fun g => cm (hmatch.2 g)
          refine ⟨hn, fun x hx => by have := ho x hx; omega, fun t => ⟨.inl, fun g => g.elim id (fun g => ?_)⟩⟩
          exact absurd ((hconst t g.1 g.2.1).symm.trans g.2.2) cm'
      obtain ⟨r, hr, hrn, hrc⟩ := ih e out' (by omega) (by omega) q.1 q.2.1 (by omega)
      refine ⟨r, ?_, hrn, fun t => ?_⟩
      · refine Ev.step (f := fun k => (signalbenchref06_next.f k l a).bind fun t273 => (if t273 < 0 then (signalbenchref06_cut.j1 k l zz cov out a t273 true) else (signalbenchref06_cut.j1 k l zz cov out a t273 (decide (t273 > zz))))) (fun k => by rw [signalbenchref06_cut.l0, if_pos c]) ?_
        refine Ev.bind hb ?_
        refine Ev.congr (f := fun k => signalbenchref06_cut.j1 k l zz cov out a b (decide (b < 0 ∨ b > zz))) (fun k => ?_) ?_
        · show (if b < 0 then _ else _) = _
          by_cases c1 : b < 0
          · rw [if_pos c1, decide_eq_true (Or.inl c1)]
          · rw [if_neg c1]
            congr 1
            simp [c1]
        refine Ev.step (f := fun k => signalbenchref06_cut.j2 k l zz cov out a e) (fun k => ?_) ?_
        · rw [signalbenchref06_cut.j1, he]
          by_cases c1 : b < 0 ∨ b > zz
          · rw [if_pos (decide_eq_true c1), if_pos c1]
          · rw [if_neg (by simpa using c1), if_neg c1]
        obtain ⟨K1, hK1⟩ := hfind
        obtain ⟨K2, hK2⟩ := hr
        refine ⟨max K1 K2 + 1, fun k hk => ?_⟩
        obtain ⟨k, rfl⟩ : ∃ q, k = q + 1 := ⟨k - 1, by omega⟩
        show signalbenchref06_cut.j2 (k + 1) l zz cov out a e = some r
        rw [cut_j2 l k zz cov out a e m (hK1 k (by omega)) (by omega), ← ho']
        exact hK2 k (by omega)
      · rw [hrc, q.2.2]
        constructor
        · rintro ((g | g) | g)
          · exact .inl g
          · exact .inr ⟨g.1, by omega, g.2.2⟩
          · exact .inr ⟨by omega, g.2⟩
        · rintro (g | g)
          · exact .inl (.inl g)
          · by_cases c2 : t < e
            · exact .inl (.inr ⟨g.1, c2, g.2.2⟩)
            · exact .inr ⟨by omega, g.2⟩
    · exact ⟨out, Ev.le 1 (fun k => by rw [signalbenchref06_cut.l0, if_neg c]), hn, fun t => ⟨.inl, fun h => h.elim id (fun h => by omega)⟩⟩
theorem rjoin_ev (l : List S25) (hl : l.length ≤ 1000000) : Ev (fun k => signalbenchref06_Join.f k l) (unionS l) := by
  obtain ⟨r, hr, hn, hc⟩ := cut_ev l (by omega) 1099511627776 (Int.le_refl _) true _ 0 [] (Nat.le_refl _) (Int.le_refl _) ⟨List.Pairwise.nil, fun x hx => by simp at hx⟩ (fun x hx => by simp at hx) (by omega)
  have e : r = unionS l := by
    refine norm_unique _ _ hn (union_norm l) (fun t => ?_)
    rw [hc, union_cov]
    constructor
    · rintro (h | ⟨_, _, h⟩)
      · exact absurd h (cov_nil t)
      · exact h.2 rfl
    · intro h
      obtain ⟨s, hs, hv, h1, h2⟩ := h
      have hv' := vld_iff.1 hv
      exact .inr ⟨by omega, by omega, ⟨fun _ => rfl, fun _ => ⟨s, hs, hv, h1, h2⟩⟩⟩
  rw [← e]
  unfold signalbenchref06_Join.f signalbenchref06_cut.f
  exact hr.bind (Ev.now r)
theorem rgaps_ev (l : List S25) (hl : l.length ≤ 1000000) (a0 a1 : Int) : Ev (fun k => signalbenchref06_Gaps.f k l a0 a1) (gapsS l a0 a1) := by
  obtain ⟨g1, _, g2⟩ := gaps_law l a0 a1
  unfold signalbenchref06_Gaps.f
  rw [rvalid_f]
  simp only [Option.bind_some]
  by_cases hv : vld a0 a1 = true
  · have hv' := vld_iff.1 hv
    simp only [if_pos hv]
    obtain ⟨r, hr, hn, hc⟩ := cut_ev l (by omega) a1 hv'.2.2 false _ a0 [] (Nat.le_refl _) hv'.1 ⟨List.Pairwise.nil, fun x hx => by simp at hx⟩ (fun x hx => by simp at hx) (by omega)
    have e : r = gapsS l a0 a1 := by
      refine norm_unique _ _ hn g1 (fun t => ?_)
      rw [hc, g2]
      constructor
      · rintro (h | ⟨h1, h2, h⟩)
        · exact absurd h (cov_nil t)
        · exact ⟨hv, h1, h2, fun x => by have := h.1 x; simp at this⟩
      · rintro ⟨_, h1, h2, h⟩
        exact .inr ⟨h1, h2, ⟨fun x => absurd x h, fun x => by simp at x⟩⟩
    rw [← e]
    unfold signalbenchref06_cut.f
    exact hr.bind (Ev.now r)
  · simp only [if_neg hv]
    unfold gapsS
    rw [if_neg hv]
    exact Ev.now _
theorem rtotal_loop (l : List S25) (hl : l.length ≤ 1000000000) (hn : Norm l) : ∀ (m i : Nat) (k : Nat) (n : Int), l.length - i = m → i ≤ l.length → 0 ≤ n → n + sumS (l.drop i) ≤ 1099511627776 → m + 1 ≤ k →
    signalbenchref06_Total.l0 k n l (i : Int) = some (n + sumS (l.drop i)) := by
  intro m
  induction m with
  | zero =>
    intro i k n h1 h2 _ _ hk
    obtain ⟨k, rfl⟩ : ∃ q, k = q + 1 := ⟨k - 1, by omega⟩
    rw [signalbenchref06_Total.l0, if_neg (by omega), List.drop_eq_nil_of_le (by omega)]
    simp [sumS]
  | succ m ih =>
    intro i k n h1 h2 h3 h4 hk
    obtain ⟨k, rfl⟩ : ∃ q, k = q + 1 := ⟨k - 1, by omega⟩
    have hi : i < l.length := by omega
    have hw : wrap64 ((i : Int) + 1) = ((i + 1 : Nat) : Int) := by rw [wrap_id (by omega) (by omega)]; rfl
    have hd : l.drop i = l[i] :: l.drop (i + 1) := List.drop_eq_getElem_cons hi
    have hs := norm_bounds hn (List.getElem_mem hi)
    have hp := (sumS_pos (norm_drop hn (i + 1))).1
    rw [hd, sumS] at h4
    rw [signalbenchref06_Total.l0, if_pos (by omega), if_pos (by omega), rd_at l i hi, hw, hd, wrap_id (x := n + l[i].f1) (by omega) (by omega), wrap_id (by omega) (by omega), ih (i + 1) k _ (by omega) (by omega) (by omega) (by omega) (by omega)]
    congr 1
    rw [sumS]
    omega
theorem rtotal_ev (l : List S25) (hl : l.length ≤ 1000000) : Ev (fun k => signalbenchref06_Total.f k l) (sumS (unionS l)) := by
  have hj : (unionS l).length ≤ 1000000 := Nat.le_trans (join_len l) hl
  have hp := sumS_pos (union_norm l)
  refine (rjoin_ev l hl).bind ⟨(unionS l).length + 1, fun k hk => ?_⟩
  have := rtotal_loop (unionS l) (by omega) (union_norm l) (unionS l).length 0 k 0 rfl (Nat.zero_le _) (by omega) (by rw [List.drop_zero]; omega) (by omega)
  rw [List.drop_zero] at this
  refine Eq.trans this ?_
  congr 1
  omega
theorem lists_pure (l : List S25) (a0 a1 t : Int) : ∃ k, signalbenchlaw06_SpanLists.f k l a0 a1 t = some true := by
  refine Ev.rounds (g := fun k => signalbenchlaw06_SpanLists.f k l a0 a1 t) ?_
  unfold signalbenchlaw06_SpanLists.f
  rw [lives_f]
  simp only [Option.bind_some, if_true]
  by_cases c : (l.length : Int) > 60
  · simp only [if_pos c]
    exact Ev.now true
  · simp only [if_neg c]
    have g3 := gaps_len l a0 a1
    have u3 : (unionS l).length ≤ l.length := join_len l
    rw [join_f l (by omega)]
    simp only [Option.bind_some]
    refine (rjoin_ev l (by omega)).bind ?_
    refine (same_ev (unionS l) (by omega)).bind ?_
    simp only [if_true]
    refine (gaps_ev l (by omega) a0 a1).bind ?_
    refine (rgaps_ev l (by omega) a0 a1).bind ?_
    refine (same_ev (gapsS l a0 a1) (by omega)).bind ?_
    simp only [if_true]
    refine (total_ev l (by omega)).bind ?_
    refine (rtotal_ev l (by omega)).bind ?_
    simp only [if_true]
    refine (find_ev l (by omega) t).bind ?_
    refine (rfind_ev l (by omega) t).bind ?_
    simp only [beq_self_eq_true]
    exact Ev.now true
end Go.Proofs.Ytejmegaalfblmaa.H
