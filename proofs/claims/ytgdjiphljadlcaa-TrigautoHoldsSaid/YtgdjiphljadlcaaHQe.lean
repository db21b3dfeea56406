/- What a trigger is compiled to; plain laws over the printed functions, no condition. -/
import Derived.Test.YtgdjiphljadlcaaHQd
import Derived.Test.YtgdjiphljadlcaaH11
namespace Go.Proofs.Ytgdjiphljadlcaa.H
open Go.RowKit Go.Proofs.YtgdjiphljadlcaaW.PrintWords Go.Proofs.YtgdjiphljadlcaaW.PrintLast Go.Proofs.YtgdjiphljadlcaaW.PrintMore
set_option linter.unusedSimpArgs false
/-- the compiled condition -/
def compC (ns : List S100) (c : S62) : S42 := ⟨findN c.f0 ns 0, c.f1, c.f2, c.f3, c.f4⟩
/-- the compiled step -/
def compS (ns : List S100) (x : S64) : S50 := ⟨compC ns x.f0, x.f2, x.f3, if x.f3 = true then compC ns x.f4 else ⟨0, 0, 0, 0, 0⟩⟩
def flat (ns : List S100) : List S64 → List S50
  | [] => []
  | x :: l => List.replicate x.f1.toNat (compS ns x) ++ flat ns l
def fixS (y : S50) : S50 := ⟨y.f0, 0, false, ⟨0, 0, 0, 0, 0⟩⟩
def fixH : List S50 → List S50
  | [] => []
  | y :: l => fixS y :: l
theorem fixH_len (l : List S50) : (fixH l).length = l.length := by cases l <;> rfl
theorem tsum_drop {xs : List S64} {i : Nat} (h : i < xs.length) : tsum (xs.drop i) = xs[i].f1 + tsum (xs.drop (i + 1)) := by
  rw [List.drop_eq_getElem_cons h, tsum]
theorem flat_drop {ns : List S100} {xs : List S64} {i : Nat} (h : i < xs.length) : flat ns (xs.drop i) = List.replicate xs[i].f1.toNat (compS ns xs[i]) ++ flat ns (xs.drop (i + 1)) := by
  rw [List.drop_eq_getElem_cons h, flat]
section
variable (D : List S139) (ns : List S100) (xs : List S64)
theorem comp_l1 (i : Nat) (y : S50) (T : Int) (hT : T ≤ 32) (R : List S50 × Int) : ∀ (d m : Nat) (acc : List S50), (m : Int) + d = T → acc.length + d ≤ 1000 →
    Ev (fun k => trigauto_Compile.l0 k (acc ++ List.replicate d y) xs (xs.length : Int) (wrap64 ((i : Int) + 1)) D ns) R →
    Ev (fun k => trigauto_Compile.l1 k acc xs (xs.length : Int) (i : Int) T (m : Int) D ns y.f0.f0 y.f0.f1 y.f0.f2 y.f0.f3 y.f0.f4 y.f1 y.f2 y.f3.f0 y.f3.f1 y.f3.f2 y.f3.f3 y.f3.f4) R := by
  intro d
  induction d with
  | zero =>
    intro m acc hm hl h
    simp only [List.replicate_zero, List.append_nil] at h
    refine Ev.step (fun k => ?_) h
    simp only [trigauto_Compile.l1]
    rw [if_neg (by omega)]
  | succ d ih =>
    intro m acc hm hl h
    have e2 : wrap64 ((m : Int) + 1) = ((m + 1 : Nat) : Int) := by rw [wr_in (by omega)]; omega
    have h' : Ev (fun k => trigauto_Compile.l0 k ((acc ++ [y]) ++ List.replicate d y) xs (xs.length : Int) (wrap64 ((i : Int) + 1)) D ns) R := by
      rw [List.append_assoc, List.singleton_append, ← List.replicate_succ]
      exact h
    refine Ev.step (fun k => ?_) (ih (m + 1) (acc ++ [y]) (by omega) (by rw [List.length_append, List.length_singleton]; omega) h')
    simp only [trigauto_Compile.l1, e2]
    rw [if_pos (by omega), if_pos (by omega)]
theorem comp_l0 (hx : xs.length ≤ 32) (hp : ∀ x ∈ xs, 1 ≤ x.f1) : ∀ (d i : Nat) (acc : List S50), i + d = xs.length → (acc.length : Int) + tsum (xs.drop i) ≤ 32 → acc ++ flat ns (xs.drop i) ≠ [] →
    Ev (fun k => trigauto_Compile.l0 k acc xs (xs.length : Int) (i : Int) D ns) (fixH (acc ++ flat ns (xs.drop i)), 0) := by
  intro d
  induction d with
  | zero =>
    intro i acc hi _ hne
    obtain rfl : i = xs.length := by omega
    rw [List.drop_length, flat, List.append_nil] at hne ⊢
    cases acc with
    | nil => exact absurd rfl hne
    | cons y l =>
      refine Ev.le 1 fun k => ?_
      simp only [trigauto_Compile.l0]
      rw [if_neg (by omega), if_pos (by rw [List.length_cons]; omega)]
      rfl
  | succ d ih =>
    intro i acc hi hs hne
    have hlt : i < xs.length := by omega
    have hpi := hp xs[i] (List.getElem_mem _)
    have hge := tsum_ge (l := xs.drop (i + 1)) fun y hy => hp y (List.mem_of_mem_drop hy)
    have ht := tsum_drop hlt
    have hf := flat_drop (ns := ns) hlt
    have e2 : wrap64 ((i : Int) + 1) = ((i + 1 : Nat) : Int) := by rw [wr_in (by omega)]; omega
    have hlen : (xs[i].f1.toNat : Int) = xs[i].f1 := by omega
    have hnext := ih (i + 1) (acc ++ List.replicate xs[i].f1.toNat (compS ns xs[i])) (by omega) (by rw [List.length_append, List.length_replicate]; omega) (by rw [List.append_assoc, ← hf]; exact hne)
    rw [List.append_assoc, ← hf, ← e2] at hnext
    have hl1 := comp_l1 D ns xs i (compS ns xs[i]) xs[i].f1 (by omega) _ xs[i].f1.toNat 0 acc (by omega) (by omega) hnext
    refine Ev.step (f := fun k => trigauto_Compile.j1 k acc xs (xs.length : Int) (i : Int) D ns xs[i].f0.f0 xs[i].f0.f1 xs[i].f0.f2 xs[i].f0.f3 xs[i].f0.f4 xs[i].f1 xs[i].f2 xs[i].f3 xs[i].f4.f0 xs[i].f4.f1 xs[i].f4.f2 xs[i].f4.f3 xs[i].f4.f4 (compS ns xs[i]).f0.f0 (compS ns xs[i]).f0.f1 (compS ns xs[i]).f0.f2 (compS ns xs[i]).f0.f3 (compS ns xs[i]).f0.f4 (compS ns xs[i]).f1 (compS ns xs[i]).f2 (compS ns xs[i]).f3.f0 (compS ns xs[i]).f3.f1 (compS ns xs[i]).f3.f2 (compS ns xs[i]).f3.f3 (compS ns xs[i]).f3.f4) (fun k => ?_) ?_
    · simp only [trigauto_Compile.l0, rd64 xs i hlt, trigauto_compiled.f, stackdef_Find.f, Option.bind_some]
      rw [if_pos (by omega), if_pos (by omega), if_pos (by omega)]
      by_cases c : xs[i].f3 = true
      · rw [if_pos c]
        simp only [compS, compC, if_pos c]
      · rw [if_neg c]
        simp only [compS, compC, if_neg c]
    · refine Ev.step (fun k => ?_) hl1
      simp only [trigauto_Compile.j1]
      rfl
end
theorem flat_ne {ns : List S100} {xs : List S64} (h : 1 ≤ xs.length) (hp : ∀ x ∈ xs, 1 ≤ x.f1) : flat ns xs ≠ [] := by
  cases xs with
  | nil => simp at h
  | cons x l =>
    have h1 := hp x (List.mem_cons_self ..)
    obtain ⟨n, hn⟩ : ∃ n, x.f1.toNat = n + 1 := ⟨x.f1.toNat - 1, by omega⟩
    simp [flat, hn, List.replicate_succ]
/-- the compiled trigger, or the error -/
def compT (s : ByteArray) (xs : List S64) (ns : List S100) : List S50 × Int := if tcErr s xs ns = 0 then (fixH (flat ns xs), 0) else ([], tcErr s xs ns)
theorem tcErr_zero {s : ByteArray} {xs : List S64} {ns : List S100} (h : tcErr s xs ns = 0) : wrErr s xs = 0 ∧ nErr ns xs = 0 := by
  unfold tcErr at h
  by_cases c : wrErr s xs = 0
  · rw [if_pos c] at h; exact ⟨c, h⟩
  · rw [if_neg c] at h; exact absurd h c
theorem compile_ev (s : ByteArray) (xs : List S64) (D : List S139) (ns : List S100) : Ev (fun k => trigauto_Compile.f k s xs D ns) (compT s xs ns) := by
  unfold trigauto_Compile.f compT
  refine (tcheck_ev s xs D ns).bind ?_
  by_cases c : tcErr s xs ns = 0
  · simp only [if_pos c]
    obtain ⟨h1, h2, h3, h4⟩ := wrErr_len (tcErr_zero c).1
    have hp := fun x hx => (wsErr_times (h3 x hx)).1
    have := comp_l0 D ns xs h2 hp xs.length 0 [] (by omega) (by rw [List.drop_zero]; simpa using h4) (by rw [List.drop_zero, List.nil_append]; exact flat_ne h1 hp)
    rw [List.drop_zero, List.nil_append] at this
    exact this
  · simp only [if_neg c]
    exact Ev.now _
theorem flat_len {ns : List S100} {xs : List S64} (hp : ∀ x ∈ xs, 1 ≤ x.f1) : ((flat ns xs).length : Int) = tsum xs := by
  induction xs with
  | nil => rfl
  | cons x l ih =>
    have h1 := hp x (List.mem_cons_self ..)
    have := ih fun y hy => hp y (List.mem_cons_of_mem _ hy)
    simp only [flat, tsum, List.length_append, List.length_replicate]
    omega
theorem compT_len (s : ByteArray) (xs : List S64) (ns : List S100) : (compT s xs ns).1.length ≤ 32 := by
  unfold compT
  by_cases c : tcErr s xs ns = 0
  · rw [if_pos c]
    obtain ⟨h1, h2, h3, h4⟩ := wrErr_len (tcErr_zero c).1
    have := flat_len (ns := ns) fun x hx => (wsErr_times (h3 x hx)).1
    simp only [fixH_len]
    omega
  · rw [if_neg c]; simp
end Go.Proofs.Ytgdjiphljadlcaa.H
