/- The same of the specification, for a stack of any readable length, and the law on compiling; plain laws over the printed functions. -/
import Derived.Test.YtgdjiphljadlcaaHQe
import Derived.Test.YtgdjiphljadlcaaHRd
import Derived.Test.YtgdjiphljadlcaaH21
import Derived.Test.YtgdjiphljadlcaaH22
import Derived.Test.YtgdjiphljadlcaaH30
namespace Go.Proofs.Ytgdjiphljadlcaa.H
open Go.RowKit Go.Proofs.YtgdjiphljadlcaaW.PrintWords Go.Proofs.YtgdjiphljadlcaaW.PrintLast Go.Proofs.YtgdjiphljadlcaaW.PrintMore
set_option linter.unusedSimpArgs false
theorem fixH_snoc (l : List S50) (y : S50) (h : l ≠ []) : fixH (l ++ [y]) = fixH l ++ [y] := by
  cases l with
  | nil => exact absurd rfl h
  | cons z l => rfl
section
variable (D : List S139) (ns : List S100) (xs : List S64)
theorem rcomp_l1 (s : ByteArray) (x : S64) (i : Nat) (y : S50) (hT : x.f1 ≤ 32) (R : List S50 × Int) : ∀ (d m : Nat) (acc : List S50), (m : Int) + d = x.f1 → acc.length + d ≤ 1000 →
    Ev (fun k => signalbenchref44_Compile.l0 k (fixH (acc ++ List.replicate d y)) (wrap64 ((i : Int) + 1)) s xs D ns) R →
    Ev (fun k => signalbenchref44_Compile.l1 k (fixH acc) (i : Int) (m : Int) s xs D ns x.f0.f0 x.f0.f1 x.f0.f2 x.f0.f3 x.f0.f4 x.f1 x.f2 x.f3 x.f4.f0 x.f4.f1 x.f4.f2 x.f4.f3 x.f4.f4 y.f0.f0 y.f0.f1 y.f0.f2 y.f0.f3 y.f0.f4 y.f1 y.f2 y.f3.f0 y.f3.f1 y.f3.f2 y.f3.f3 y.f3.f4) R := by
  intro d
  induction d with
  | zero =>
    intro m acc hm hl h
    simp only [List.replicate_zero, List.append_nil] at h
    refine Ev.step (fun k => ?_) h
    simp only [signalbenchref44_Compile.l1]
    rw [if_neg (by omega)]
  | succ d ih =>
    intro m acc hm hl h
    have e2 : wrap64 ((m : Int) + 1) = ((m + 1 : Nat) : Int) := by rw [wr_in (by omega)]; omega
    have h' : Ev (fun k => signalbenchref44_Compile.l0 k (fixH ((acc ++ [y]) ++ List.replicate d y)) (wrap64 ((i : Int) + 1)) s xs D ns) R := by
      rw [List.append_assoc, List.singleton_append, ← List.replicate_succ]
      exact h
    have hl' := fixH_len acc
    refine Ev.step (fun k => ?_) (ih (m + 1) (acc ++ [y]) (by omega) (by rw [List.length_append, List.length_singleton]; omega) h')
    simp only [signalbenchref44_Compile.l1, e2]
    rw [if_pos (by omega)]
    cases acc with
    | nil =>
      rw [if_pos (show ((fixH []).length : Int) = 0 from rfl), if_pos (by rw [hl']; simp)]
      rfl
    | cons z l =>
      rw [if_neg (by rw [hl', List.length_cons]; omega), if_pos (by omega), fixH_snoc _ _ (by simp)]
theorem rcompC_ev (hn : ns.length ≤ 9223372036854775807) (c : S62) : Ev (fun k => signalbenchref44_compiled.f k c.f0 c.f1 c.f2 c.f3 c.f4 D ns) ((compC ns c).f0, (compC ns c).f1, (compC ns c).f2, (compC ns c).f3, (compC ns c).f4) := by
  unfold signalbenchref44_compiled.f
  exact (r39find_ev D ns hn c.f0).bind (Ev.now _)
theorem rcomp_l0 (hx : xs.length ≤ 32) (hn : ns.length ≤ 9223372036854775807) (s : ByteArray) (hp : ∀ x ∈ xs, 1 ≤ x.f1) : ∀ (d i : Nat) (acc : List S50), i + d = xs.length → (acc.length : Int) + tsum (xs.drop i) ≤ 32 →
    Ev (fun k => signalbenchref44_Compile.l0 k (fixH acc) (i : Int) s xs D ns) (fixH (acc ++ flat ns (xs.drop i)), 0) := by
  intro d
  induction d with
  | zero =>
    intro i acc hi _
    obtain rfl : i = xs.length := by omega
    rw [List.drop_length, flat, List.append_nil]
    refine Ev.le 1 fun k => ?_
    simp only [signalbenchref44_Compile.l0]
    rw [if_neg (by omega)]
  | succ d ih =>
    intro i acc hi hs
    have hlt : i < xs.length := by omega
    have hpi := hp xs[i] (List.getElem_mem _)
    have hge := tsum_ge (l := xs.drop (i + 1)) fun y hy => hp y (List.mem_of_mem_drop hy)
    have ht := tsum_drop hlt
    have hf := flat_drop (ns := ns) hlt
    have e2 : wrap64 ((i : Int) + 1) = ((i + 1 : Nat) : Int) := by rw [wr_in (by omega)]; omega
    have hlen : (xs[i].f1.toNat : Int) = xs[i].f1 := by omega
    have hnext := ih (i + 1) (acc ++ List.replicate xs[i].f1.toNat (compS ns xs[i])) (by omega) (by rw [List.length_append, List.length_replicate]; omega)
    rw [List.append_assoc, ← hf, ← e2] at hnext
    have hl1 := rcomp_l1 D ns xs s xs[i] i (compS ns xs[i]) (by omega) _ xs[i].f1.toNat 0 acc (by omega) (by omega) hnext
    have hj1 : Ev (fun k => signalbenchref44_Compile.j1 k (fixH acc) (i : Int) s xs D ns xs[i].f0.f0 xs[i].f0.f1 xs[i].f0.f2 xs[i].f0.f3 xs[i].f0.f4 xs[i].f1 xs[i].f2 xs[i].f3 xs[i].f4.f0 xs[i].f4.f1 xs[i].f4.f2 xs[i].f4.f3 xs[i].f4.f4 (compS ns xs[i]).f0.f0 (compS ns xs[i]).f0.f1 (compS ns xs[i]).f0.f2 (compS ns xs[i]).f0.f3 (compS ns xs[i]).f0.f4 (compS ns xs[i]).f1 (compS ns xs[i]).f2 (compS ns xs[i]).f3.f0 (compS ns xs[i]).f3.f1 (compS ns xs[i]).f3.f2 (compS ns xs[i]).f3.f3 (compS ns xs[i]).f3.f4) (fixH (acc ++ flat ns (xs.drop i)), 0) := by
      refine Ev.step (fun k => ?_) hl1
      simp only [signalbenchref44_Compile.j1]
      rfl
    by_cases c : xs[i].f3 = true
    · refine Ev.step (f := fun k => (signalbenchref44_compiled.f k xs[i].f0.f0 xs[i].f0.f1 xs[i].f0.f2 xs[i].f0.f3 xs[i].f0.f4 D ns).bind fun bt189 => (signalbenchref44_compiled.f k xs[i].f4.f0 xs[i].f4.f1 xs[i].f4.f2 xs[i].f4.f3 xs[i].f4.f4 D ns).bind fun bt195 => signalbenchref44_Compile.j1 k (fixH acc) (i : Int) s xs D ns xs[i].f0.f0 xs[i].f0.f1 xs[i].f0.f2 xs[i].f0.f3 xs[i].f0.f4 xs[i].f1 xs[i].f2 xs[i].f3 xs[i].f4.f0 xs[i].f4.f1 xs[i].f4.f2 xs[i].f4.f3 xs[i].f4.f4 bt189.1 bt189.2.1 bt189.2.2.1 bt189.2.2.2.1 bt189.2.2.2.2 xs[i].f2 xs[i].f3 bt195.1 bt195.2.1 bt195.2.2.1 bt195.2.2.2.1 bt195.2.2.2.2) (fun k => ?_) ?_
      · simp only [signalbenchref44_Compile.l0, rd64 xs i hlt]
        rw [if_pos (by omega), if_pos (by omega)]
        simp only [if_pos c]
      · refine (rcompC_ev D ns hn xs[i].f0).bind ?_
        refine (rcompC_ev D ns hn xs[i].f4).bind ?_
        simp only [compS, if_pos c] at hj1
        exact hj1
    · refine Ev.step (f := fun k => (signalbenchref44_compiled.f k xs[i].f0.f0 xs[i].f0.f1 xs[i].f0.f2 xs[i].f0.f3 xs[i].f0.f4 D ns).bind fun bt189 => signalbenchref44_Compile.j1 k (fixH acc) (i : Int) s xs D ns xs[i].f0.f0 xs[i].f0.f1 xs[i].f0.f2 xs[i].f0.f3 xs[i].f0.f4 xs[i].f1 xs[i].f2 xs[i].f3 xs[i].f4.f0 xs[i].f4.f1 xs[i].f4.f2 xs[i].f4.f3 xs[i].f4.f4 bt189.1 bt189.2.1 bt189.2.2.1 bt189.2.2.2.1 bt189.2.2.2.2 xs[i].f2 xs[i].f3 0 0 0 0 0) (fun k => ?_) ?_
      · simp only [signalbenchref44_Compile.l0, rd64 xs i hlt]
        rw [if_pos (by omega), if_pos (by omega)]
        simp only [if_neg c]
      · refine (rcompC_ev D ns hn xs[i].f0).bind ?_
        simp only [compS, if_neg c] at hj1
        exact hj1
end
theorem rcompile_ev (s : ByteArray) (xs : List S64) (D : List S139) (ns : List S100) (hn : ns.length ≤ 9223372036854775807) : Ev (fun k => signalbenchref44_Compile.f k s xs D ns) (compT s xs ns) := by
  unfold signalbenchref44_Compile.f compT
  refine (rtcheck_ev s xs D ns hn).bind ?_
  by_cases c : tcErr s xs ns = 0
  · simp only [if_pos c]
    obtain ⟨h1, h2, h3, h4⟩ := wrErr_len (tcErr_zero c).1
    have hp := fun x hx => (wsErr_times (h3 x hx)).1
    have := rcomp_l0 D ns xs h2 hn s hp xs.length 0 [] (by omega) (by rw [List.drop_zero]; simpa using h4)
    rw [List.drop_zero, List.nil_append] at this
    exact this
  · simp only [if_neg c]
    exact Ev.now _
theorem same_ev (xs : List S50) (hx : xs.length ≤ 32) : Ev (fun k => signalbenchref44_Same.f k xs xs) true := by
  unfold signalbenchref44_Same.f
  simp only [if_true]
  have := ev_drop xs (fun k i => signalbenchref44_Same.l0 k i xs xs) (fun _ _ => true) ?_ ?_ xs.length 0 (by omega)
  · simpa using this
  · refine Ev.le 1 fun k => ?_
    simp only [signalbenchref44_Same.l0]
    rw [if_neg (by omega)]
  · intro i hi ih
    have e2 : wrap64 ((i : Int) + 1) = ((i + 1 : Nat) : Int) := by rw [wr_in (by omega)]; omega
    refine Ev.step (fun k => ?_) ih
    simp only [signalbenchref44_Same.l0, rd50 xs i hi, e2, beq_self_eq_true, Bool.not_true, Bool.or_self, Bool.false_eq_true, if_false]
    rw [if_pos (by omega), if_pos (by omega), if_pos (by omega)]
theorem compiles_pure (s : ByteArray) (xs : List S64) (D : List S139) (ns : List S100) (hn : ns.length ≤ 9223372036854775807) : ∃ k, signalbenchlaw44_TrigautoCompiles.f k s xs D ns = some true := by
  refine Ev.rounds ?_
  unfold signalbenchlaw44_TrigautoCompiles.f
  refine (compile_ev s xs D ns).bind ?_
  refine (rcompile_ev s xs D ns hn).bind ?_
  simp only [if_true]
  refine (same_ev _ (compT_len s xs ns)).bind ?_
  simp only [if_true]
  exact Ev.now _
end Go.Proofs.Ytgdjiphljadlcaa.H
