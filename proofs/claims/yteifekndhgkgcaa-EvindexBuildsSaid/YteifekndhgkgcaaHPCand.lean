/- Candidates in plain words, and the specification's insertion; for at most a million places in all. -/
import Derived.Test.YteifekndhgkgcaaHP0
import Derived.Test.YteifekndhgkgcaaHCand
import Derived.Test.YteifekndhgkgcaaH14
import Derived.Test.YteifekndhgkgcaaH15
namespace Go.Proofs.Yteifekndhgkgcaa.H
open Go.RowKit Go.Proofs.YteifekndhgkgcaaW.PrintWords Go.Proofs.YteifekndhgkgcaaW.PrintLast Go.Proofs.YteifekndhgkgcaaW.PrintMore
set_option linter.unusedSimpArgs false
set_option linter.unusedVariables false
def matchK (nd kd : Int) (a b : Int) : Prop := a = nd ∧ (kd = 0 ∨ b = kd)
instance (nd kd a b : Int) : Decidable (matchK nd kd a b) := by unfold matchK; infer_instance
def flatQ (q : Int → Int → Prop) [∀ a b, Decidable (q a b)] : List S43 → List Int
 | [] => []
 | s :: r => if q s.f0 s.f1 then s.f2 ++ flatQ q r else flatQ q r
theorem flatQ_le (q : Int → Int → Prop) [∀ a b, Decidable (q a b)] : ∀ (L : List S43), (flatQ q L).length ≤ (L.map fun s => s.f2.length).sum
  | [] => Nat.zero_le _
  | s :: r => by
    have := flatQ_le q r
    rw [flatQ, List.map_cons, List.sum_cons]
    split
    · rw [List.length_append]; omega
    · omega
def candS (nd kd : Int) (L : List S43) : List Int := if nd = -1 then [] else isort (flatQ (matchK nd kd) L)
def insR (x : Int) : List Int → List Int
 | [] => [x]
 | y :: l => if x < y then x :: y :: l else y :: insR x l
theorem insR_perm (x : Int) : ∀ l, (insR x l).Perm (x :: l)
  | [] => List.Perm.refl _
  | y :: l => by
    unfold insR
    split
    · exact List.Perm.refl _
    · exact ((insR_perm x l).cons y).trans (List.Perm.swap x y l)
theorem insR_len (x : Int) (l : List Int) : (insR x l).length = l.length + 1 := (insR_perm x l).length_eq
theorem insR_asc (x : Int) : ∀ l : List Int, l.Pairwise (· ≤ ·) → (insR x l).Pairwise (· ≤ ·)
  | [], _ => List.pairwise_singleton _ _
  | y :: l, h => by
    have h' := List.pairwise_cons.1 h
    unfold insR
    split
    · rename_i c
      refine List.pairwise_cons.2 ⟨fun u hu => ?_, h⟩
      rcases List.mem_cons.1 hu with rfl | hu
      · omega
      · have := h'.1 u hu
        omega
    · rename_i c
      refine List.pairwise_cons.2 ⟨fun u hu => ?_, insR_asc x l h'.2⟩
      rcases List.mem_cons.1 ((insR_perm x l).mem_iff.1 hu) with rfl | hu
      · omega
      · exact h'.1 u hu
def insAll (out xs : List Int) : List Int := xs.foldl (fun o x => insR x o) out
theorem insAll_perm : ∀ (xs out : List Int), (insAll out xs).Perm (out ++ xs)
  | [], out => by simp [insAll]
  | x :: xs, out => by
    have := insAll_perm xs (insR x out)
    unfold insAll at this ⊢
    rw [List.foldl_cons]
    refine this.trans (((insR_perm x out).append_right xs).trans ?_)
    exact (List.perm_middle (l₁ := out) (a := x) (l₂ := xs)).symm
theorem insAll_asc : ∀ (xs out : List Int), out.Pairwise (· ≤ ·) → (insAll out xs).Pairwise (· ≤ ·)
  | [], out, h => h
  | x :: xs, out, h => insAll_asc xs (insR x out) (insR_asc x out h)
theorem insAll_isort (xs : List Int) : insAll [] xs = isort xs := asc_unique _ _ (insAll_asc xs [] List.Pairwise.nil) (isort_asc xs) ((insAll_perm xs []).trans (isort_perm xs).symm)
theorem insAll_app (out xs ys : List Int) : insAll (insAll out xs) ys = insAll out (xs ++ ys) := by unfold insAll; rw [List.foldl_append]
theorem insAll_len (out xs : List Int) : (insAll out xs).length = out.length + xs.length := by rw [(insAll_perm xs out).length_eq, List.length_append]
theorem ins_true (l : List Int) (n : Int) (hl : l.length ≤ 1000000) : ∀ (m i : Nat) (out : List Int) (k : Nat), l.length - i = m → i ≤ l.length → out.length ≤ i + 1 → m + 1 ≤ k → signalbenchref46_insert.l0 k l n out true (i : Int) = some (out ++ l.drop i) := by
  intro m
  induction m with
  | zero =>
    intro i out k h1 h2 ho hk
    obtain ⟨k, rfl⟩ : ∃ q, k = q + 1 := ⟨k - 1, by omega⟩
    rw [signalbenchref46_insert.l0, if_neg (by omega), if_pos rfl, List.drop_eq_nil_of_le (by omega), List.append_nil]
  | succ m ih =>
    intro i out k h1 h2 ho hk
    obtain ⟨k, rfl⟩ : ∃ q, k = q + 1 := ⟨k - 1, by omega⟩
    have hi : i < l.length := by omega
    rw [signalbenchref46_insert.l0, if_pos (by omega), if_pos rfl, if_pos (by omega), if_pos (by omega), rdI l i hi, next_i i _ hi (by omega), ih (i + 1) _ k (by omega) (by omega) (by rw [List.length_append, List.length_singleton]; omega) (by omega), List.drop_eq_getElem_cons hi, List.append_assoc]
    rfl
theorem ins_false (l : List Int) (n : Int) (hl : l.length ≤ 1000000) : ∀ (m i : Nat) (out : List Int) (k : Nat), l.length - i = m → i ≤ l.length → out.length ≤ i → m + 1 ≤ k → signalbenchref46_insert.l0 k l n out false (i : Int) = some (out ++ insR n (l.drop i)) := by
  intro m
  induction m with
  | zero =>
    intro i out k h1 h2 ho hk
    obtain ⟨k, rfl⟩ : ∃ q, k = q + 1 := ⟨k - 1, by omega⟩
    rw [signalbenchref46_insert.l0, if_neg (by omega), if_neg (by simp), if_pos (by omega), List.drop_eq_nil_of_le (by omega)]
    rfl
  | succ m ih =>
    intro i out k h1 h2 ho hk
    obtain ⟨k, rfl⟩ : ∃ q, k = q + 1 := ⟨k - 1, by omega⟩
    have hi : i < l.length := by omega
    rw [signalbenchref46_insert.l0, if_pos (by omega), if_neg (by simp), if_pos (by omega), rdI l i hi, List.drop_eq_getElem_cons hi, insR, next_i i _ hi (by omega)]
    by_cases h : n < l[i]
    · rw [if_pos h, if_pos (by omega), if_pos h]
      simp only [Option.bind_some]
      rw [if_pos (by rw [List.length_append, List.length_singleton]; omega), ins_true l n hl m (i + 1) _ k (by omega) (by omega) (by simp; omega) (by omega)]
      simp
    · rw [if_neg h, if_neg h, if_pos (by omega), ih (i + 1) _ k (by omega) (by omega) (by rw [List.length_append, List.length_singleton]; omega) (by omega), List.append_assoc]
      rfl
theorem ins_ev (l : List Int) (n : Int) (hl : l.length ≤ 1000000) : Ev (fun k => signalbenchref46_insert.f k l n) (insR n l) :=
  ⟨l.length + 1, fun k hk => by
    have := ins_false l n hl l.length 0 [] k rfl (Nat.zero_le _) (Nat.le_refl _) hk
    rw [List.drop_zero, List.nil_append] at this
    exact this⟩
theorem rc_l1 (c : Int) (L : List S43) (si : Nat) (nd kd q2 q3 q4 a b : Int) (ps : List Int) (r : List Int) : ∀ (m j : Nat) (out : List Int), ps.length - j = m → j ≤ ps.length → out.length + (ps.length - j) ≤ 1000000 → ps.length ≤ 1000000 →
    Ev (fun k => signalbenchref46_Candidates.l0 k (insAll out (ps.drop j)) (wrap64 ((si : Int) + 1)) c L nd kd q2 q3 q4) r → Ev (fun k => signalbenchref46_Candidates.l1 k out (si : Int) (j : Int) c L nd kd q2 q3 q4 a b ps) r := by
  intro m
  induction m with
  | zero =>
    intro j out h1 h2 hb hp h
    rw [List.drop_eq_nil_of_le (by omega)] at h
    refine Ev.step (f := fun k => signalbenchref46_Candidates.l0 k out (wrap64 ((si : Int) + 1)) c L nd kd q2 q3 q4) (fun k => ?_) h
    rw [signalbenchref46_Candidates.l1, if_neg (by omega)]
  | succ m ih =>
    intro j out h1 h2 hb hp h
    have hj : j < ps.length := by omega
    rw [List.drop_eq_getElem_cons hj] at h
    refine Ev.step (f := fun k => (signalbenchref46_insert.f k out ps[j]).bind fun t => signalbenchref46_Candidates.l1 k t (si : Int) ((j + 1 : Nat) : Int) c L nd kd q2 q3 q4 a b ps) (fun k => ?_) (Ev.bind (ins_ev out ps[j] (by omega)) (ih (j + 1) _ (by omega) (by omega) (by rw [insR_len]; omega) hp h))
    rw [signalbenchref46_Candidates.l1, if_pos (by omega), if_pos (by omega), rdI ps j hj, next_i j _ hj (by omega)]
theorem rc_l0 (c : Int) (L : List S43) (hL : L.length ≤ 1000000) (nd kd q2 q3 q4 : Int) : ∀ (m i : Nat) (out : List Int), L.length - i = m → i ≤ L.length → out.length + ((L.drop i).map fun s => s.f2.length).sum ≤ 1000000 →
    Ev (fun k => signalbenchref46_Candidates.l0 k out (i : Int) c L nd kd q2 q3 q4) (insAll out (flatQ (matchK nd kd) (L.drop i))) := by
  intro m
  induction m with
  | zero =>
    intro i out h1 h2 hb
    rw [List.drop_eq_nil_of_le (by omega)]
    refine Ev.le 1 (fun k => ?_)
    rw [signalbenchref46_Candidates.l0, if_neg (by omega)]
    rfl
  | succ m ih =>
    intro i out h1 h2 hb
    have hi : i < L.length := by omega
    have hb' := hb
    rw [List.drop_eq_getElem_cons hi, List.map_cons, List.sum_cons] at hb'
    have hj : ∀ bb : Bool, (bb = true ↔ matchK nd kd L[i].f0 L[i].f1) → Ev (fun k => signalbenchref46_Candidates.j1 k out (i : Int) bb c L nd kd q2 q3 q4 L[i].f0 L[i].f1 L[i].f2) (insAll out (flatQ (matchK nd kd) (L.drop i))) := by
      intro bb hbb
      rw [List.drop_eq_getElem_cons hi, flatQ]
      by_cases q : matchK nd kd L[i].f0 L[i].f1
      · rw [if_pos q, ← insAll_app]
        refine Ev.step (f := fun k => signalbenchref46_Candidates.l1 k out (i : Int) ((0 : Nat) : Int) c L nd kd q2 q3 q4 L[i].f0 L[i].f1 L[i].f2) (fun k => ?_) (rc_l1 c L i nd kd q2 q3 q4 _ _ L[i].f2 _ L[i].f2.length 0 out rfl (Nat.zero_le _) (by omega) (by omega) ?_)
        · rw [signalbenchref46_Candidates.j1, if_pos (hbb.2 q)]
          rfl
        · rw [List.drop_zero, next_i i _ hi (by omega)]
          exact ih (i + 1) _ (by omega) (by omega) (by rw [insAll_len]; omega)
      · rw [if_neg q]
        refine Ev.step (f := fun k => signalbenchref46_Candidates.l0 k out ((i + 1 : Nat) : Int) c L nd kd q2 q3 q4) (fun k => ?_) (ih (i + 1) out (by omega) (by omega) (by omega))
        rw [signalbenchref46_Candidates.j1, if_neg (fun e => q (hbb.1 e)), next_i i _ hi (by omega)]
    by_cases c1 : L[i].f0 = nd
    · by_cases c2 : kd = 0
      · refine Ev.step (f := fun k => signalbenchref46_Candidates.j1 k out (i : Int) true c L nd kd q2 q3 q4 L[i].f0 L[i].f1 L[i].f2) (fun k => ?_) (hj true ⟨fun _ => ⟨c1, .inl c2⟩, fun _ => rfl⟩)
        rw [signalbenchref46_Candidates.l0, if_pos (by omega), if_pos (by omega), rd43 L i hi, if_pos c1, if_pos c2]
      · refine Ev.step (f := fun k => signalbenchref46_Candidates.j1 k out (i : Int) (L[i].f1 == kd) c L nd kd q2 q3 q4 L[i].f0 L[i].f1 L[i].f2) (fun k => ?_) (hj _ ?_)
        · rw [signalbenchref46_Candidates.l0, if_pos (by omega), if_pos (by omega), rd43 L i hi, if_pos c1, if_neg c2]
        · rw [beq_iff_eq]
          exact ⟨fun e => ⟨c1, .inr e⟩, fun e => e.2.resolve_left c2⟩
    · refine Ev.step (f := fun k => signalbenchref46_Candidates.j1 k out (i : Int) false c L nd kd q2 q3 q4 L[i].f0 L[i].f1 L[i].f2) (fun k => ?_) (hj false ⟨fun e => (by cases e), fun e => absurd e.1 c1⟩)
      rw [signalbenchref46_Candidates.l0, if_pos (by omega), if_pos (by omega), rd43 L i hi, if_neg c1]
theorem rcand_ev (c : Int) (L : List S43) (hL : L.length ≤ 1000000) (hs : (L.map fun s => s.f2.length).sum ≤ 1000000) (nd kd q2 q3 q4 : Int) : Ev (fun k => signalbenchref46_Candidates.f k c L nd kd q2 q3 q4) (candS nd kd L) := by
  unfold candS
  by_cases h : nd = -1
  · rw [if_pos h]
    refine Ev.congr (f := fun _ => some []) (fun k => ?_) (Ev.now _)
    unfold signalbenchref46_Candidates.f
    simp only [Option.bind_some, if_pos h]
  · rw [if_neg h, ← insAll_isort]
    refine Ev.congr (f := fun k => signalbenchref46_Candidates.l0 k [] ((0 : Nat) : Int) c L nd kd q2 q3 q4) (fun k => ?_) (rc_l0 c L hL nd kd q2 q3 q4 L.length 0 [] rfl (Nat.zero_le _) (by simpa using hs))
    unfold signalbenchref46_Candidates.f
    simp only [Option.bind_some, if_neg h]
    rfl
theorem cc_l0 (L : List S43) (hL : L.length ≤ 1000000) (nd kd q2 q3 q4 : Int) : ∀ (m i : Nat) (out : List Int) (k : Nat), L.length - i = m → i ≤ L.length → out.length + ((L.drop i).map fun s => s.f2.length).sum ≤ 1000000 → m + 1 ≤ k →
    evindex_Candidates.l0 k out L (L.length : Int) (i : Int) nd kd q2 q3 q4 = some (isort (out ++ flatQ (matchK nd kd) (L.drop i))) := by
  intro m
  induction m with
  | zero =>
    intro i out k h1 h2 hb hk
    obtain ⟨k, rfl⟩ : ∃ q, k = q + 1 := ⟨k - 1, by omega⟩
    rw [evindex_Candidates.l0, if_neg (by omega), List.drop_eq_nil_of_le (by omega)]
    unfold sortI.f
    rw [if_pos (by omega), flatQ, List.append_nil]
    rfl
  | succ m ih =>
    intro i out k h1 h2 hb hk
    obtain ⟨k, rfl⟩ : ∃ q, k = q + 1 := ⟨k - 1, by omega⟩
    have hi : i < L.length := by omega
    have hb' := hb
    rw [List.drop_eq_getElem_cons hi, List.map_cons, List.sum_cons] at hb'
    have hrec := fun o ho => ih (i + 1) o k (by omega) (by omega) ho (by omega)
    rw [evindex_Candidates.l0, if_pos (by omega), if_pos (by omega), if_pos (by omega), rd43 L i hi, next_i i _ hi (by omega), List.drop_eq_getElem_cons hi, flatQ]
    by_cases c1 : L[i].f0 = nd
    · rw [if_pos c1]
      by_cases c2 : kd = 0
      · rw [if_pos c2, if_pos (by omega), hrec _ (by rw [List.length_append]; omega), if_pos ⟨c1, .inl c2⟩, List.append_assoc]
      · rw [if_neg c2]
        by_cases c3 : L[i].f1 = kd
        · rw [if_pos c3, if_pos (by omega), hrec _ (by rw [List.length_append]; omega), if_pos ⟨c1, .inr c3⟩, List.append_assoc]
        · rw [if_neg c3, hrec _ (by omega), if_neg (fun e => e.2.elim c2 c3)]
    · rw [if_neg c1, hrec _ (by omega), if_neg (fun e => c1 e.1)]
theorem cand_ev (c : Int) (L : List S43) (hL : L.length ≤ 1000000) (hs : (L.map fun s => s.f2.length).sum ≤ 1000000) (nd kd q2 q3 q4 : Int) : Ev (fun k => evindex_Candidates.f k c L nd kd q2 q3 q4) (candS nd kd L) := by
  unfold candS
  by_cases h : nd = -1
  · rw [if_pos h]
    refine Ev.congr (f := fun _ => some []) (fun k => ?_) (Ev.now _)
    unfold evindex_Candidates.f
    rw [if_pos h]
  · rw [if_neg h]
    refine ⟨L.length + 1, fun k hk => ?_⟩
    show evindex_Candidates.f k c L nd kd q2 q3 q4 = _
    unfold evindex_Candidates.f
    rw [if_neg h]
    have := cc_l0 L hL nd kd q2 q3 q4 L.length 0 [] k rfl (Nat.zero_le _) (by simpa using hs) hk
    rw [List.drop_zero, List.nil_append] at this
    exact this
theorem candS_len (nd kd : Int) (L : List S43) : (candS nd kd L).length ≤ (L.map fun s => s.f2.length).sum := by
  unfold candS
  split
  · exact Nat.zero_le _
  · rw [isort_len]
    exact flatQ_le _ L
end Go.Proofs.Yteifekndhgkgcaa.H
