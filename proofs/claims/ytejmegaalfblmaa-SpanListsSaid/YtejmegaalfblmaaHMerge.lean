/- Spans that are joined: what the join covers, and that a list of separate spans is told by what it covers; no condition. -/
import Derived.Test.YtejmegaalfblmaaHCommon
namespace Go.Proofs.Ytejmegaalfblmaa.H
open Go.RowKit Go.Proofs.YtejmegaalfblmaaW.PrintWords Go.Proofs.YtejmegaalfblmaaW.PrintLast Go.Proofs.YtejmegaalfblmaaW.PrintMore
theorem vld_iff {a b : Int} : vld a b = true ↔ 0 ≤ a ∧ a < b ∧ b ≤ 1099511627776 := by simp [vld]
def Cov (l : List S25) (t : Int) : Prop := ∃ s ∈ l, vld s.f0 s.f1 = true ∧ s.f0 ≤ t ∧ t < s.f1
def Norm (l : List S25) : Prop := l.Pairwise (fun a b => a.f1 < b.f0) ∧ ∀ s ∈ l, vld s.f0 s.f1 = true
theorem S25_ext {x y : S25} (h0 : x.f0 = y.f0) (h1 : x.f1 = y.f1) : x = y := by
  cases x; cases y
  simp only at h0 h1
  subst h0; subst h1
  rfl
theorem norm_tail {x : S25} {l : List S25} (h : Norm (x :: l)) : Norm l := ⟨(List.pairwise_cons.1 h.1).2, fun s hs => h.2 s (List.mem_cons_of_mem _ hs)⟩
theorem norm_head {x : S25} {l : List S25} (h : Norm (x :: l)) : ∀ s ∈ l, x.f1 < s.f0 := (List.pairwise_cons.1 h.1).1
theorem norm_least {x : S25} {l : List S25} (h : Norm (x :: l)) {t : Int} (hc : Cov (x :: l) t) : x.f0 ≤ t := by
  obtain ⟨s, hs, _, h1, _⟩ := hc
  rcases List.mem_cons.1 hs with rfl | hs
  · exact h1
  · have := norm_head h s hs
    have := vld_iff.1 (h.2 x List.mem_cons_self)
    omega
theorem norm_end {x : S25} {l : List S25} (h : Norm (x :: l)) : ¬ Cov (x :: l) x.f1 := by
  rintro ⟨s, hs, _, h1, h2⟩
  rcases List.mem_cons.1 hs with rfl | hs
  · omega
  · have := norm_head h s hs
    omega
theorem cov_head {x : S25} {l : List S25} (h : Norm (x :: l)) {t : Int} (h1 : x.f0 ≤ t) (h2 : t < x.f1) : Cov (x :: l) t := ⟨x, List.mem_cons_self, h.2 x List.mem_cons_self, h1, h2⟩
theorem norm_unique : ∀ (a b : List S25), Norm a → Norm b → (∀ t, Cov a t ↔ Cov b t) → a = b
  | [], [], _, _, _ => rfl
  | [], y :: b, _, hb, h => by
    have hy := vld_iff.1 (hb.2 y List.mem_cons_self)
    obtain ⟨s, hs, _⟩ := (h y.f0).2 (cov_head hb (by omega) (by omega))
    simp at hs
  | x :: a, [], ha, _, h => by
    have hx := vld_iff.1 (ha.2 x List.mem_cons_self)
    obtain ⟨s, hs, _⟩ := (h x.f0).1 (cov_head ha (by omega) (by omega))
    simp at hs
  | x :: a, y :: b, ha, hb, h => by
    have hx := vld_iff.1 (ha.2 x List.mem_cons_self)
    have hy := vld_iff.1 (hb.2 y List.mem_cons_self)
    have e0 : x.f0 = y.f0 := by
      have h1 := norm_least hb ((h x.f0).1 (cov_head ha (by omega) (by omega)))
      have h2 := norm_least ha ((h y.f0).2 (cov_head hb (by omega) (by omega)))
      omega
    have e1 : x.f1 = y.f1 := by
      rcases Int.lt_trichotomy x.f1 y.f1 with c | c | c
      · exact absurd ((h x.f1).2 (cov_head hb (by omega) c)) (norm_end ha)
      · exact c
      · exact absurd ((h y.f1).1 (cov_head ha (by omega) c)) (norm_end hb)
    have e : x = y := S25_ext e0 e1
    subst e
    rw [norm_unique a b (norm_tail ha) (norm_tail hb) (fun t => ⟨fun ⟨s, hs, hv, h1, h2⟩ => ?_, fun ⟨s, hs, hv, h1, h2⟩ => ?_⟩)]
    · have hl := norm_head ha s hs
      obtain ⟨u, hu, hv', h3, h4⟩ := (h t).1 ⟨s, List.mem_cons_of_mem _ hs, hv, h1, h2⟩
      rcases List.mem_cons.1 hu with rfl | hu
      · omega
      · exact ⟨u, hu, hv', h3, h4⟩
    · have hl := norm_head hb s hs
      obtain ⟨u, hu, hv', h3, h4⟩ := (h t).2 ⟨s, List.mem_cons_of_mem _ hs, hv, h1, h2⟩
      rcases List.mem_cons.1 hu with rfl | hu
      · omega
      · exact ⟨u, hu, hv', h3, h4⟩
-- ---- the join
def insS (s : S25) : List S25 → List S25
 | [] => [s]
 | t :: l => if s.f0 ≤ t.f0 then s :: t :: l else t :: insS s l
def sortS : List S25 → List S25
 | [] => []
 | s :: l => insS s (sortS l)
def stepJ (out : List S25) (s : S25) : List S25 :=
  match out.getLast? with
  | none => [s]
  | some z => if s.f0 ≤ z.f1 then out.dropLast ++ [⟨z.f0, mx z.f1 s.f1⟩] else out ++ [s]
def validS (l : List S25) : List S25 := l.filter fun s => vld s.f0 s.f1
def joinS (l : List S25) : List S25 := l.foldl stepJ []
theorem mem_insS (s x : S25) : ∀ l, x ∈ insS s l ↔ x = s ∨ x ∈ l
  | [] => by simp [insS]
  | t :: l => by
    unfold insS
    split
    · simp
    · rw [List.mem_cons, mem_insS s x l, List.mem_cons]
      constructor
      · rintro (h | h | h)
        · exact .inr (.inl h)
        · exact .inl h
        · exact .inr (.inr h)
      · rintro (h | h | h)
        · exact .inr (.inl h)
        · exact .inl h
        · exact .inr (.inr h)
theorem mem_sortS (x : S25) : ∀ l, x ∈ sortS l ↔ x ∈ l
  | [] => by simp [sortS]
  | s :: l => by rw [sortS, mem_insS, mem_sortS x l, List.mem_cons]
def Asc (l : List S25) : Prop := l.Pairwise fun a b => a.f0 ≤ b.f0
theorem asc_insS (s : S25) : ∀ l, Asc l → Asc (insS s l)
  | [], _ => by simp [insS, Asc]
  | t :: l, h => by
    have h' := List.pairwise_cons.1 h
    unfold insS
    split
    · rename_i c
      refine List.pairwise_cons.2 ⟨fun u hu => ?_, h⟩
      rcases List.mem_cons.1 hu with rfl | hu
      · exact c
      · have := h'.1 u hu
        omega
    · rename_i c
      refine List.pairwise_cons.2 ⟨fun u hu => ?_, asc_insS s l h'.2⟩
      rcases (mem_insS s u l).1 hu with rfl | hu
      · omega
      · exact h'.1 u hu
theorem asc_sortS : ∀ l, Asc (sortS l)
  | [] => List.Pairwise.nil
  | s :: l => asc_insS s _ (asc_sortS l)
theorem cov_append (a b : List S25) (t : Int) : Cov (a ++ b) t ↔ Cov a t ∨ Cov b t := by
  constructor
  · rintro ⟨s, hs, h⟩
    rcases List.mem_append.1 hs with hs | hs
    · exact .inl ⟨s, hs, h⟩
    · exact .inr ⟨s, hs, h⟩
  · rintro (⟨s, hs, h⟩ | ⟨s, hs, h⟩)
    · exact ⟨s, List.mem_append_left _ hs, h⟩
    · exact ⟨s, List.mem_append_right _ hs, h⟩
theorem cov_one (s : S25) (t : Int) : Cov [s] t ↔ vld s.f0 s.f1 = true ∧ s.f0 ≤ t ∧ t < s.f1 := by
  constructor
  · rintro ⟨u, hu, h⟩
    rw [List.mem_singleton.1 hu] at h
    exact h
  · intro h
    exact ⟨s, List.mem_singleton.2 rfl, h⟩
theorem norm_snoc {a : List S25} {s : S25} : Norm (a ++ [s]) ↔ Norm a ∧ vld s.f0 s.f1 = true ∧ ∀ x ∈ a, x.f1 < s.f0 := by
  unfold Norm
  rw [List.pairwise_append]
  constructor
  · rintro ⟨⟨h1, _, h2⟩, h3⟩
    exact ⟨⟨h1, fun x hx => h3 x (List.mem_append_left _ hx)⟩, h3 s (List.mem_append_right _ (List.mem_singleton.2 rfl)), fun x hx => h2 x hx s (List.mem_singleton.2 rfl)⟩
  · rintro ⟨⟨h1, h3⟩, hv, h2⟩
    refine ⟨⟨h1, List.pairwise_singleton _ _, fun x hx y hy => ?_⟩, fun x hx => ?_⟩
    · rw [List.mem_singleton.1 hy]
      exact h2 x hx
    · rcases List.mem_append.1 hx with hx | hx
      · exact h3 x hx
      · rw [List.mem_singleton.1 hx]
        exact hv
theorem stepJ_law (out : List S25) (s : S25) (hn : Norm out) (hv : vld s.f0 s.f1 = true) (hs : ∀ x ∈ out, x.f0 ≤ s.f0) :
    Norm (stepJ out s) ∧ (∀ t, Cov (stepJ out s) t ↔ Cov out t ∨ Cov [s] t) ∧ ∀ x ∈ stepJ out s, x.f0 ≤ s.f0 := by
  rcases List.eq_nil_or_concat out with rfl | ⟨a, z, rfl⟩
  · refine ⟨⟨List.pairwise_singleton _ _, fun x hx => ?_⟩, fun t => ?_, fun x hx => ?_⟩
    · rw [List.mem_singleton.1 hx]; exact hv
    · constructor
      · exact fun h => .inr h
      · rintro (⟨_, h, _⟩ | h)
        · simp at h
        · exact h
    · rw [List.mem_singleton.1 hx]; exact Int.le_refl _
  · rw [List.concat_eq_append] at *
    obtain ⟨ha, hz, hl⟩ := norm_snoc.1 hn
    have hz' := vld_iff.1 hz
    have hv' := vld_iff.1 hv
    have hzs := hs z (List.mem_append_right _ (List.mem_singleton.2 rfl))
    have e : stepJ (a ++ [z]) s = if s.f0 ≤ z.f1 then a ++ [⟨z.f0, mx z.f1 s.f1⟩] else (a ++ [z]) ++ [s] := by
      unfold stepJ
      simp only [List.getLast?_concat, List.dropLast_concat]
    rw [e]
    have hm : mx z.f1 s.f1 = max z.f1 s.f1 := by unfold mx; omega
    by_cases c : s.f0 ≤ z.f1
    · rw [if_pos c, hm]
      have hn' : vld z.f0 (max z.f1 s.f1) = true := vld_iff.2 ⟨by omega, by omega, by omega⟩
      refine ⟨norm_snoc.2 ⟨ha, hn', hl⟩, fun t => ?_, fun x hx => ?_⟩
      · rw [cov_append, cov_append, cov_one, cov_one, cov_one]
        simp only [hn', hz, hv, true_and]
        constructor
        · rintro (h | ⟨h1, h2⟩)
          · exact .inl (.inl h)
          · by_cases c2 : t < z.f1
            · exact .inl (.inr ⟨h1, c2⟩)
            · exact .inr ⟨by omega, by omega⟩
        · rintro ((h | ⟨h1, h2⟩) | ⟨h1, h2⟩)
          · exact .inl h
          · exact .inr ⟨h1, by omega⟩
          · exact .inr ⟨by omega, by omega⟩
      · rcases List.mem_append.1 hx with hx | hx
        · exact hs x (List.mem_append_left _ hx)
        · rw [List.mem_singleton.1 hx]
          exact hzs
    · rw [if_neg c]
      refine ⟨norm_snoc.2 ⟨hn, hv, fun x hx => ?_⟩, fun t => cov_append _ _ t, fun x hx => ?_⟩
      · rcases List.mem_append.1 hx with hx | hx
        · have := hl x hx
          omega
        · rw [List.mem_singleton.1 hx]
          omega
      · rcases List.mem_append.1 hx with hx | hx
        · exact hs x hx
        · rw [List.mem_singleton.1 hx]
          exact Int.le_refl _
theorem fold_law : ∀ (l out : List S25), Norm out → Asc l → (∀ s ∈ l, vld s.f0 s.f1 = true) → (∀ x ∈ out, ∀ s ∈ l, x.f0 ≤ s.f0) →
    Norm (l.foldl stepJ out) ∧ ∀ t, Cov (l.foldl stepJ out) t ↔ Cov out t ∨ Cov l t
  | [], out, hn, _, _, _ => ⟨hn, fun t => ⟨.inl, fun h => h.elim id (fun ⟨_, h, _⟩ => by simp at h)⟩⟩
  | s :: l, out, hn, ha, hv, hs => by
    have ha' := List.pairwise_cons.1 ha
    obtain ⟨h1, h2, h3⟩ := stepJ_law out s hn (hv s List.mem_cons_self) (fun x hx => hs x hx s List.mem_cons_self)
    obtain ⟨h4, h5⟩ := fold_law l (stepJ out s) h1 ha'.2 (fun u hu => hv u (List.mem_cons_of_mem _ hu)) (fun x hx u hu => by
      have := h3 x hx
      have := ha'.1 u hu
      omega)
    refine ⟨h4, fun t => ?_⟩
    show Cov (l.foldl stepJ (stepJ out s)) t ↔ _
    rw [h5, h2, show s :: l = [s] ++ l from rfl, cov_append]
    constructor
    · rintro ((h | h) | h)
      · exact .inl h
      · exact .inr (.inl h)
      · exact .inr (.inr h)
    · rintro (h | h | h)
      · exact .inl (.inl h)
      · exact .inl (.inr h)
      · exact .inr h
theorem join_law (l : List S25) (ha : Asc l) (hv : ∀ s ∈ l, vld s.f0 s.f1 = true) : Norm (joinS l) ∧ ∀ t, Cov (joinS l) t ↔ Cov l t := by
  obtain ⟨h1, h2⟩ := fold_law l [] ⟨List.Pairwise.nil, fun _ h => by simp at h⟩ ha hv (fun _ h => by simp at h)
  refine ⟨h1, fun t => (h2 t).trans ⟨fun h => h.elim (fun ⟨_, h, _⟩ => by simp at h) id, .inr⟩⟩
theorem mem_validS {l : List S25} {s : S25} : s ∈ validS l ↔ s ∈ l ∧ vld s.f0 s.f1 = true := by
  unfold validS
  rw [List.mem_filter]
theorem cov_validS (l : List S25) (t : Int) : Cov (validS l) t ↔ Cov l t := by
  constructor
  · rintro ⟨s, hs, h⟩
    exact ⟨s, (mem_validS.1 hs).1, h⟩
  · rintro ⟨s, hs, h⟩
    exact ⟨s, mem_validS.2 ⟨hs, h.1⟩, h⟩
theorem join_of {l d : List S25} (hd : ∀ x, x ∈ d ↔ x ∈ validS l) (ha : Asc d) : Norm (joinS d) ∧ ∀ t, Cov (joinS d) t ↔ Cov l t := by
  obtain ⟨h1, h2⟩ := join_law d ha (fun s hs => (mem_validS.1 ((hd s).1 hs)).2)
  refine ⟨h1, fun t => (h2 t).trans (Iff.trans ?_ (cov_validS l t))⟩
  constructor
  · rintro ⟨s, hs, h⟩
    exact ⟨s, (hd s).1 hs, h⟩
  · rintro ⟨s, hs, h⟩
    exact ⟨s, (hd s).2 hs, h⟩
/-- which of two spans of one beginning comes first doesn't matter -/
theorem join_sorted {l d : List S25} (hd : ∀ x, x ∈ d ↔ x ∈ validS l) (ha : Asc d) : joinS d = joinS (sortS (validS l)) := by
  obtain ⟨h1, h2⟩ := join_of hd ha
  obtain ⟨h3, h4⟩ := join_of (l := l) (d := sortS (validS l)) (fun x => mem_sortS x _) (asc_sortS _)
  exact norm_unique _ _ h1 h3 (fun t => (h2 t).trans (h4 t).symm)
end Go.Proofs.Ytejmegaalfblmaa.H
