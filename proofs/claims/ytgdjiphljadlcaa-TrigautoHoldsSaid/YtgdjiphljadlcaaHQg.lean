/- What is known of the steps of a compiled trigger; plain laws, no condition. -/
import Derived.Test.YtgdjiphljadlcaaHQe
import Derived.Test.YtgdjiphljadlcaaH29
namespace Go.Proofs.Ytgdjiphljadlcaa.H
open Go.RowKit Go.Proofs.YtgdjiphljadlcaaW.PrintWords Go.Proofs.YtgdjiphljadlcaaW.PrintLast Go.Proofs.YtgdjiphljadlcaaW.PrintMore
set_option linter.unusedSimpArgs false
theorem awake_is : signalbenchlaw44_awake.f = some true := rfl
theorem findN_bd (a : ByteArray) : ∀ (l : List S100) (i : Nat), 0 ≤ findN a l i → (i : Int) ≤ findN a l i ∧ findN a l i < (i : Int) + l.length := by
  intro l
  induction l with
  | nil => intro i h; simp only [findN] at h; omega
  | cons x l ih =>
    intro i h
    simp only [findN] at h ⊢
    by_cases c : x.f0.toList = a.toList
    · rw [if_pos c, List.length_cons]; omega
    · rw [if_neg c] at h ⊢
      have := ih (i + 1) h
      rw [List.length_cons]; omega
theorem nErr_all {ns : List S100} : ∀ {l : List S64}, nErr ns l = 0 → ∀ x ∈ l, 0 ≤ findN x.f0.f0 ns 0 ∧ (x.f3 = true → 0 ≤ findN x.f4.f0 ns 0) := by
  intro l
  induction l with
  | nil => intro _ x hx; cases hx
  | cons y l ih =>
    intro h x hx
    simp only [nErr] at h
    by_cases c1 : findN y.f0.f0 ns 0 < 0
    · rw [if_pos c1] at h; omega
    · rw [if_neg c1] at h
      by_cases c2 : y.f3 = true ∧ findN y.f4.f0 ns 0 < 0
      · rw [if_pos c2] at h; omega
      · rw [if_neg c2] at h
        rcases List.mem_cons.1 hx with rfl | hx
        · exact ⟨by omega, fun h3 => by
            rcases Int.lt_or_le (findN x.f4.f0 ns 0) 0 with c | c
            · exact absurd ⟨h3, c⟩ c2
            · exact c⟩
        · exact ih h x hx
theorem wcErr_zero {c : S62} (h : wcErr c = 0) : fErr c.f1 c.f2 c.f3 c.f4 = 0 := by
  unfold wcErr at h
  by_cases c0 : nameB c.f0 = true
  · rw [if_pos c0] at h; exact h
  · rw [if_neg c0] at h; omega
theorem wsErr_zero {x : S64} (h : wsErr x = 0) : wcErr x.f0 = 0 ∧ (x.f3 = true → wcErr x.f4 = 0) := by
  have ht := wsErr_times h
  unfold wsErr at h
  rw [if_neg (by omega)] at h
  by_cases c : wcErr x.f0 = 0
  · rw [if_pos c] at h
    refine ⟨c, fun h3 => ?_⟩
    rw [if_pos h3] at h
    exact h
  · rw [if_neg c] at h; exact absurd h c
theorem cErr_of {n kd fl op v : Int} (hn : 0 ≤ n) (h : fErr kd fl op v = 0) : cErr n kd fl op v = 0 := by
  unfold cErr
  rw [if_neg (by omega)]
  exact h
/-- what is known of a step of a compiled trigger -/
structure Fine (ns : List S100) (x : S64) : Prop where
  n0 : 0 ≤ findN x.f0.f0 ns 0
  n1 : x.f3 = true → 0 ≤ findN x.f4.f0 ns 0
  c0 : wcErr x.f0 = 0
  c1 : x.f3 = true → wcErr x.f4 = 0
  t : 1 ≤ x.f1
  w0 : 0 ≤ x.f2
  w1 : x.f2 ≤ 1099511627776
theorem fine_of {s : ByteArray} {xs : List S64} {ns : List S100} (h : tcErr s xs ns = 0) : ∀ x ∈ xs, Fine ns x := by
  intro x hx
  obtain ⟨ha, hb⟩ := tcErr_zero h
  obtain ⟨_, _, h3, _⟩ := wrErr_len ha
  have h4 := wsErr_zero (h3 x hx)
  have h5 := nErr_all hb x hx
  have h6 := wsErr_times (h3 x hx)
  exact ⟨h5.1, h5.2, h4.1, h4.2, h6.1, h6.2.1, h6.2.2⟩
theorem sErr_comp {ns : List S100} {x : S64} (h : Fine ns x) : sErr (compS ns x) false = 0 := by
  have e0 : cErr (compC ns x.f0).f0 (compC ns x.f0).f1 (compC ns x.f0).f2 (compC ns x.f0).f3 (compC ns x.f0).f4 = 0 := cErr_of h.n0 (wcErr_zero h.c0)
  have a := h.w0
  have b := h.w1
  unfold sErr
  rw [if_pos (show cErr (compS ns x).f0.f0 (compS ns x).f0.f1 (compS ns x).f0.f2 (compS ns x).f0.f3 (compS ns x).f0.f4 = 0 from e0), if_neg (show ¬ ((compS ns x).f1 < 0 ∨ (compS ns x).f1 > 1099511627776) by show ¬ (x.f2 < 0 ∨ x.f2 > 1099511627776); omega)]
  by_cases c : x.f3 = true
  · have e1 : cErr (compC ns x.f4).f0 (compC ns x.f4).f1 (compC ns x.f4).f2 (compC ns x.f4).f3 (compC ns x.f4).f4 = 0 := cErr_of (h.n1 c) (wcErr_zero (h.c1 c))
    have e2 : (compS ns x).f3 = compC ns x.f4 := if_pos c
    rw [if_pos (show (compS ns x).f2 = true from c), e2, if_pos e1]
    rfl
  · have e2 : (compS ns x).f3 = ⟨0, 0, 0, 0, 0⟩ := if_neg c
    rw [if_neg (show ¬ (compS ns x).f2 = true from c), e2, if_neg (by simp), if_neg (by simp)]
theorem sErr_fix {y : S50} (h : cErr y.f0.f0 y.f0.f1 y.f0.f2 y.f0.f3 y.f0.f4 = 0) : sErr (fixS y) true = 0 := by
  unfold sErr
  rw [if_pos (show cErr (fixS y).f0.f0 (fixS y).f0.f1 (fixS y).f0.f2 (fixS y).f0.f3 (fixS y).f0.f4 = 0 from h)]
  simp [fixS]
theorem flat_mem {ns : List S100} {y : S50} : ∀ {xs : List S64}, y ∈ flat ns xs → ∃ x ∈ xs, y = compS ns x := by
  intro xs
  induction xs with
  | nil => intro h; cases h
  | cons x l ih =>
    intro h
    simp only [flat, List.mem_append, List.mem_replicate] at h
    rcases h with ⟨_, rfl⟩ | h
    · exact ⟨x, List.mem_cons_self .., rfl⟩
    · obtain ⟨z, hz, e⟩ := ih h
      exact ⟨z, List.mem_cons_of_mem _ hz, e⟩
theorem goErr_zero : ∀ {l : List S50}, (∀ y ∈ l, sErr y false = 0) → goErr l false = 0 := by
  intro l
  induction l with
  | nil => intro _; rfl
  | cons y l ih =>
    intro h
    simp only [goErr]
    rw [if_pos (h y (List.mem_cons_self ..))]
    exact ih fun z hz => h z (List.mem_cons_of_mem _ hz)
theorem chk_comp {s : ByteArray} {xs : List S64} {ns : List S100} (h : tcErr s xs ns = 0) : chkErr (fixH (flat ns xs)) = 0 := by
  have hf := fine_of h
  obtain ⟨h1, _, h3, h4⟩ := wrErr_len (tcErr_zero h).1
  have hp := fun x hx => (hf x hx).t
  have hl := flat_len (ns := ns) hp
  have hne := flat_ne (ns := ns) h1 hp
  have hall : ∀ y ∈ flat ns xs, sErr y false = 0 := by
    intro y hy
    obtain ⟨x, hx, rfl⟩ := flat_mem hy
    exact sErr_comp (hf x hx)
  unfold chkErr
  rw [if_neg (by rw [fixH_len]; intro e; exact hne (List.eq_nil_of_length_eq_zero (by omega))), if_neg (by rw [fixH_len]; omega)]
  cases hq : flat ns xs with
  | nil => exact absurd hq hne
  | cons y l =>
    have hy : y ∈ flat ns xs := by rw [hq]; exact List.mem_cons_self ..
    obtain ⟨x, hx, e⟩ := flat_mem hy
    have hc : cErr y.f0.f0 y.f0.f1 y.f0.f2 y.f0.f3 y.f0.f4 = 0 := by rw [e]; exact cErr_of (hf x hx).n0 (wcErr_zero (hf x hx).c0)
    simp only [fixH, goErr]
    rw [if_pos (sErr_fix hc)]
    exact goErr_zero fun z hz => hall z (by rw [hq]; exact List.mem_cons_of_mem _ hz)
theorem fixH_get {l : List S50} {i : Nat} (h : i < (fixH l).length) (h' : i < l.length) : (fixH l)[i] = if i = 0 then fixS l[i] else l[i] := by
  cases l with
  | nil => simp at h'
  | cons y l =>
    cases i with
    | zero => rfl
    | succ i => rfl
end Go.Proofs.Ytgdjiphljadlcaa.H
