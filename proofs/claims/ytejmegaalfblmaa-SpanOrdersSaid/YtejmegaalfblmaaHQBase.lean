/- Small words for the plain laws; no condition. -/
import Derived.Test.YtejmegaalfblmaaHJoin
namespace Go.Proofs.Ytejmegaalfblmaa.H
open Go.RowKit Go.Proofs.YtejmegaalfblmaaW.PrintWords Go.Proofs.YtejmegaalfblmaaW.PrintLast Go.Proofs.YtejmegaalfblmaaW.PrintMore
set_option linter.unusedSimpArgs false
theorem Ev.le {α : Type} {g : Nat → Option α} {r : α} (n : Nat) (h : ∀ k, g (k + n) = some r) : Ev g r :=
  ⟨n, fun k hk => by
    obtain ⟨m, rfl⟩ : ∃ m, k = m + n := ⟨k - n, by omega⟩
    exact h m⟩
def holdB (s : S25) (t : Int) : Bool := vld s.f0 s.f1 && (decide (s.f0 ≤ t) && decide (t < s.f1))
theorem holdB_iff {s : S25} {t : Int} : holdB s t = true ↔ vld s.f0 s.f1 = true ∧ s.f0 ≤ t ∧ t < s.f1 := by simp [holdB]
/-- the first span from i on that holds a tick -/
def findS (t : Int) : Nat → List S25 → Int
 | _, [] => -1
 | i, s :: l => if holdB s t = true then (i : Int) else findS t (i + 1) l
theorem findS_none {t : Int} : ∀ (l : List S25) (i : Nat), ¬ Cov l t → findS t i l = -1
  | [], _, _ => rfl
  | s :: l, i, h => by
    unfold findS
    rw [if_neg (fun c => h ⟨s, List.mem_cons_self, holdB_iff.1 c⟩)]
    exact findS_none l (i + 1) (fun ⟨u, hu, hh⟩ => h ⟨u, List.mem_cons_of_mem _ hu, hh⟩)
theorem findS_some {t : Int} : ∀ (l : List S25) (i : Nat), Cov l t → (i : Int) ≤ findS t i l ∧ findS t i l < i + l.length
  | [], _, h => by
    obtain ⟨s, hs, _⟩ := h
    simp at hs
  | s :: l, i, h => by
    unfold findS
    by_cases c : holdB s t = true
    · rw [if_pos c]
      simp only [List.length_cons]
      omega
    · rw [if_neg c]
      have := findS_some l (i + 1) (by
        obtain ⟨u, hu, hh⟩ := h
        rcases List.mem_cons.1 hu with rfl | hu
        · exact absurd (holdB_iff.2 hh) c
        · exact ⟨u, hu, hh⟩)
      simp only [List.length_cons]
      omega
theorem findS_nonneg {t : Int} (l : List S25) : 0 ≤ findS t 0 l ↔ Cov l t := by
  constructor
  · intro h
    apply Classical.byContradiction
    intro c
    rw [findS_none l 0 c] at h
    omega
  · intro h
    have := findS_some l 0 h
    omega
theorem joinS_len : ∀ (l out : List S25), (l.foldl stepJ out).length ≤ out.length + l.length
  | [], out => by simp
  | s :: l, out => by
    have h := joinS_len l (stepJ out s)
    have h2 : (stepJ out s).length ≤ out.length + 1 := by
      rcases List.eq_nil_or_concat out with rfl | ⟨a, z, rfl⟩
      · simp [stepJ]
      · unfold stepJ
        rw [List.concat_eq_append, List.getLast?_concat]
        simp only [List.dropLast_concat]
        split <;> simp
    simp only [List.foldl_cons, List.length_cons]
    omega
theorem insS_len (s : S25) : ∀ l, (insS s l).length = l.length + 1
  | [] => rfl
  | t :: l => by
    unfold insS
    split
    · rfl
    · simp [insS_len s l]
theorem sortS_len : ∀ l, (sortS l).length = l.length
  | [] => rfl
  | s :: l => by rw [sortS, insS_len, sortS_len l]; rfl
theorem join_len (l : List S25) : (joinS (sortS (validS l))).length ≤ l.length := by
  have h := joinS_len (sortS (validS l)) []
  have h2 := sortS_len (validS l)
  have h3 : (validS l).length ≤ l.length := List.length_filter_le _ _
  unfold joinS
  simp only [List.length_nil] at h
  omega
/-- the join of a list -/
def unionS (l : List S25) : List S25 := joinS (sortS (validS l))
theorem union_norm (l : List S25) : Norm (unionS l) := (join_of (l := l) (d := sortS (validS l)) (fun x => mem_sortS x _) (asc_sortS _)).1
theorem union_cov (l : List S25) (t : Int) : Cov (unionS l) t ↔ Cov l t := (join_of (l := l) (d := sortS (validS l)) (fun x => mem_sortS x _) (asc_sortS _)).2 t
theorem join_f (l : List S25) (h : l.length ≤ 1000000) : span_Join.f l = some (unionS l) := by
  unfold span_Join.f
  rw [if_pos h]
  rfl
end Go.Proofs.Ytejmegaalfblmaa.H
