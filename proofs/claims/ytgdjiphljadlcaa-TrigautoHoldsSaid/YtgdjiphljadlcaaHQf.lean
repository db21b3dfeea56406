/- The law on the conditions of a compiled trigger returns true; plain law over the printed functions, no condition. -/
import Derived.Test.YtgdjiphljadlcaaHQg
import Derived.Test.YtgdjiphljadlcaaH42
import Derived.Test.YtgdjiphljadlcaaH43
namespace Go.Proofs.Ytgdjiphljadlcaa.H
open Go.RowKit Go.Proofs.YtgdjiphljadlcaaW.PrintWords Go.Proofs.YtgdjiphljadlcaaW.PrintLast Go.Proofs.YtgdjiphljadlcaaW.PrintMore
set_option linter.unusedSimpArgs false
/-- does an out satisfy a condition? -/
def tholdB (c : S62) (ns : List S100) (on : Int) (ek fr tt va au : Int) (da : ByteArray) (fa : Int) : Bool :=
  decide (wcErr c = 0) && evOk ek fr tt va au da fa && decide (0 ≤ findN c.f0 ns 0 ∧ findN c.f0 ns 0 = on ∧ (c.f1 = 0 ∨ c.f1 = ek)) && cmpB c.f3 (fldN fr tt va au da fa c.f2) c.f4
section
variable (D : List S139) (ns : List S100) (on oa : Int) (ek fr tt va au : Int) (da : ByteArray) (fa : Int)
theorem tholds_j1 (c : S62) (b : Bool) : Ev (fun k => trig_Holds.j1 k b c.f0 c.f1 c.f2 c.f3 c.f4 on oa ek fr tt va au da fa) (!b && cmpB c.f3 (fldN fr tt va au da fa c.f2) c.f4) := by
  refine Ev.le 1 fun k => ?_
  simp only [trig_Holds.j1, tfield_eq, Option.bind_some]
  cases b
  · simp only [Bool.false_eq_true, if_false, cmpB, ite_some, Bool.not_false, Bool.true_and]
  · simp only [if_true, Bool.not_true, Bool.false_and]
theorem tholds_j0 (c : S62) (b : Bool) : Ev (fun k => trig_Holds.j0 k b c.f0 c.f1 c.f2 c.f3 c.f4 D ns on oa ek fr tt va au da fa) (!b && decide (0 ≤ findN c.f0 ns 0 ∧ findN c.f0 ns 0 = on ∧ (c.f1 = 0 ∨ c.f1 = ek)) && cmpB c.f3 (fldN fr tt va au da fa c.f2) c.f4) := by
  cases b
  · simp only [Bool.not_false, Bool.true_and]
    by_cases c1 : findN c.f0 ns 0 < 0
    · rw [decide_eq_false (by omega)]
      refine Ev.step (fun k => ?_) (tholds_j1 on oa ek fr tt va au da fa c true)
      simp only [trig_Holds.j0, Bool.false_eq_true, if_false, stackdef_Find.f, Option.bind_some, if_pos c1]
    · by_cases c2 : findN c.f0 ns 0 = on
      · by_cases c3 : c.f1 = 0
        · rw [decide_eq_true (by omega)]
          refine Ev.step (fun k => ?_) (tholds_j1 on oa ek fr tt va au da fa c false)
          simp only [trig_Holds.j0, Bool.false_eq_true, if_false, stackdef_Find.f, Option.bind_some, if_neg c1, if_pos c2, if_pos c3]
        · by_cases c4 : c.f1 = ek
          · have e : (c.f1 != ek) = false := by simp [c4]
            rw [decide_eq_true (by omega)]
            refine Ev.step (fun k => ?_) (tholds_j1 on oa ek fr tt va au da fa c false)
            simp only [trig_Holds.j0, Bool.false_eq_true, if_false, stackdef_Find.f, Option.bind_some, if_neg c1, if_pos c2, if_neg c3, e]
          · have e : (c.f1 != ek) = true := by simp [c4]
            rw [decide_eq_false (by omega)]
            refine Ev.step (fun k => ?_) (tholds_j1 on oa ek fr tt va au da fa c true)
            simp only [trig_Holds.j0, Bool.false_eq_true, if_false, stackdef_Find.f, Option.bind_some, if_neg c1, if_pos c2, if_neg c3, e]
      · rw [decide_eq_false (by omega)]
        refine Ev.step (fun k => ?_) (tholds_j1 on oa ek fr tt va au da fa c true)
        simp only [trig_Holds.j0, Bool.false_eq_true, if_false, stackdef_Find.f, Option.bind_some, if_neg c1, if_neg c2]
  · simp only [Bool.not_true, Bool.false_and]
    refine Ev.le 1 fun k => ?_
    simp only [trig_Holds.j0, if_true]
theorem tholds_ev (c : S62) : Ev (fun k => trig_Holds.f k c.f0 c.f1 c.f2 c.f3 c.f4 D ns on oa ek fr tt va au da fa) (tholdB c ns on ek fr tt va au da fa) := by
  unfold trig_Holds.f tholdB
  refine (wcond_ev c).bind ?_
  by_cases c1 : wcErr c = 0
  · simp only [if_pos c1, decide_eq_true c1, Bool.true_and]
    refine (valid_ev ek fr tt va au da fa).bind ?_
    have := tholds_j0 D ns on oa ek fr tt va au da fa c (!evOk ek fr tt va au da fa)
    rw [Bool.not_not] at this
    exact this
  · simp only [if_neg c1, decide_eq_false c1, Bool.false_and]
    simpa using tholds_j0 D ns on oa ek fr tt va au da fa c true
theorem holds_same {c : S62} (h : wcErr c = 0) (hn : 0 ≤ findN c.f0 ns 0) : holdB (compC ns c).f0 (compC ns c).f1 (compC ns c).f2 (compC ns c).f3 (compC ns c).f4 on ek fr tt va au da fa = tholdB c ns on ek fr tt va au da fa := by
  unfold holdB tholdB
  have e : cErr (compC ns c).f0 (compC ns c).f1 (compC ns c).f2 (compC ns c).f3 (compC ns c).f4 = 0 := cErr_of hn (wcErr_zero h)
  rw [decide_eq_true h, decide_eq_true e]
  rfl
variable (s : ByteArray) (xs : List S64)
/-- the loop over the times of one step -/
theorem th_l1 (A : List S50) (F : List S50) (hA : A = fixH F) (hF : F.length ≤ 32) (i : Nat) (x : S64) (hx : Fine ns x) (hT : x.f1 ≤ 32) (rest : List S50) : ∀ (d m at_ : Nat), (m : Int) + d = x.f1 → F.drop at_ = List.replicate d (compS ns x) ++ rest →
    Ev (fun k => signalbenchlaw44_TrigautoHolds.l0 k ((at_ + d : Nat) : Int) (wrap64 ((i : Int) + 1)) s xs D ns on oa ek fr tt va au da fa A) true →
    Ev (fun k => signalbenchlaw44_TrigautoHolds.l1 k (at_ : Int) (i : Int) (m : Int) s xs D ns on oa ek fr tt va au da fa A x.f0.f0 x.f0.f1 x.f0.f2 x.f0.f3 x.f0.f4 x.f1 x.f2 x.f3 x.f4.f0 x.f4.f1 x.f4.f2 x.f4.f3 x.f4.f4) true := by
  intro d
  induction d with
  | zero =>
    intro m at_ hm _ h
    refine Ev.step (fun k => ?_) h
    simp only [signalbenchlaw44_TrigautoHolds.l1]
    rw [if_neg (by omega)]
    rfl
  | succ d ih =>
    intro m at_ hm hd h
    have e1 : wrap64 ((m : Int) + 1) = ((m + 1 : Nat) : Int) := by rw [wr_in (by omega)]; omega
    have hlt : at_ < F.length := by
      rcases Nat.lt_or_ge at_ F.length with c | c
      · exact c
      · rw [List.drop_of_length_le c, List.replicate_succ] at hd; simp at hd
    have e2 : wrap64 ((at_ : Int) + 1) = ((at_ + 1 : Nat) : Int) := by rw [wr_in (by omega)]; omega
    rw [List.drop_eq_getElem_cons hlt, List.replicate_succ, List.cons_append, List.cons.injEq] at hd
    obtain ⟨hg, hd⟩ := hd
    have hltA : at_ < A.length := by rw [hA, fixH_len]; exact hlt
    have hgA : A[at_] = if at_ = 0 then fixS (compS ns x) else compS ns x := by
      subst hA
      rw [fixH_get hltA hlt, hg]
    have hnext := ih (m + 1) (at_ + 1) (by omega) hd (by
      have e : at_ + 1 + d = at_ + (d + 1) := by omega
      rw [e]; exact h)
    have hg0 : A[at_].f0 = compC ns x.f0 := by
      rw [hgA]
      by_cases c0 : at_ = 0
      · rw [if_pos c0]; rfl
      · rw [if_neg c0]; rfl
    have hs0 := holds_same ns on ek fr tt va au da fa hx.c0 hx.n0
    refine Ev.step (f := fun k => (trigauto_Holds.f k (compC ns x.f0).f0 (compC ns x.f0).f1 (compC ns x.f0).f2 (compC ns x.f0).f3 (compC ns x.f0).f4 on oa ek fr tt va au da fa).bind fun t364 => (trig_Holds.f k x.f0.f0 x.f0.f1 x.f0.f2 x.f0.f3 x.f0.f4 D ns on oa ek fr tt va au da fa).bind fun t365 => if (t364 != t365) = true then some false else signalbenchlaw44_TrigautoHolds.j2 k (at_ : Int) (i : Int) (m : Int) false s xs D ns on oa ek fr tt va au da fa A x.f0.f0 x.f0.f1 x.f0.f2 x.f0.f3 x.f0.f4 x.f1 x.f2 x.f3 x.f4.f0 x.f4.f1 x.f4.f2 x.f4.f3 x.f4.f4 A[at_].f0.f0 A[at_].f0.f1 A[at_].f0.f2 A[at_].f0.f3 A[at_].f0.f4 A[at_].f1 A[at_].f2 A[at_].f3.f0 A[at_].f3.f1 A[at_].f3.f2 A[at_].f3.f3 A[at_].f3.f4) (fun k => ?_) ?_
    · simp only [signalbenchlaw44_TrigautoHolds.l1, rd50 A at_ hltA, hg0]
      rw [if_pos (by omega), if_neg (by omega), if_pos (by omega), if_pos (by omega)]
      by_cases c0 : at_ = 0
      · rw [if_neg (show ¬ (at_ : Int) > 0 by omega)]
      · have hgA' : A[at_] = compS ns x := by rw [hgA, if_neg c0]
        have hf1 : A[at_].f1 = x.f2 := by rw [hgA']; rfl
        have hf2 : (A[at_].f2 != x.f3) = false := by rw [hgA']; simp [compS]
        rw [if_pos (show (at_ : Int) > 0 by omega), if_pos hf1, hf2]
    · refine (holds_ev _ _ _ _ _ on oa ek fr tt va au da fa).bind ?_
      refine (tholds_ev D ns on oa ek fr tt va au da fa x.f0).bind ?_
      rw [hs0]
      simp only [bne_self_eq_false, Bool.false_eq_true, if_false]
      by_cases c0 : at_ = 0
      · refine Ev.step (fun k => ?_) hnext
        simp only [signalbenchlaw44_TrigautoHolds.j2, e1, e2, Bool.false_eq_true, if_false]
        rw [if_neg (show ¬ (at_ : Int) > 0 by omega)]
      · have hgA' : A[at_] = compS ns x := by rw [hgA, if_neg c0]
        by_cases c1 : x.f3 = true
        · have hg3 : A[at_].f3 = compC ns x.f4 := by rw [hgA']; exact if_pos c1
          have hs1 := holds_same ns on ek fr tt va au da fa (hx.c1 c1) (hx.n1 c1)
          refine Ev.step (f := fun k => (trigauto_Holds.f k (compC ns x.f4).f0 (compC ns x.f4).f1 (compC ns x.f4).f2 (compC ns x.f4).f3 (compC ns x.f4).f4 on oa ek fr tt va au da fa).bind fun t366 => (trig_Holds.f k x.f4.f0 x.f4.f1 x.f4.f2 x.f4.f3 x.f4.f4 D ns on oa ek fr tt va au da fa).bind fun t367 => if (t366 != t367) = true then some false else signalbenchlaw44_TrigautoHolds.l1 k ((at_ + 1 : Nat) : Int) (i : Int) ((m + 1 : Nat) : Int) s xs D ns on oa ek fr tt va au da fa A x.f0.f0 x.f0.f1 x.f0.f2 x.f0.f3 x.f0.f4 x.f1 x.f2 x.f3 x.f4.f0 x.f4.f1 x.f4.f2 x.f4.f3 x.f4.f4) (fun k => ?_) ?_
          · simp only [signalbenchlaw44_TrigautoHolds.j2, e1, e2, Bool.false_eq_true, if_false, hg3]
            rw [if_pos (show (at_ : Int) > 0 by omega), if_pos c1]
          · refine (holds_ev _ _ _ _ _ on oa ek fr tt va au da fa).bind ?_
            refine (tholds_ev D ns on oa ek fr tt va au da fa x.f4).bind ?_
            rw [hs1]
            simp only [bne_self_eq_false, Bool.false_eq_true, if_false]
            exact hnext
        · refine Ev.step (fun k => ?_) hnext
          simp only [signalbenchlaw44_TrigautoHolds.j2, e1, e2, Bool.false_eq_true, if_false]
          rw [if_pos (show (at_ : Int) > 0 by omega), if_neg c1]
theorem th_l0 (F : List S50) (hF : F.length ≤ 32) (hx : xs.length ≤ 32) (hall : ∀ x ∈ xs, Fine ns x) (hT : ∀ x ∈ xs, x.f1 ≤ 32) : ∀ (d i at_ : Nat), i + d = xs.length → F.drop at_ = flat ns (xs.drop i) → at_ ≤ F.length →
    Ev (fun k => signalbenchlaw44_TrigautoHolds.l0 k (at_ : Int) (i : Int) s xs D ns on oa ek fr tt va au da fa (fixH F)) true := by
  intro d
  induction d with
  | zero =>
    intro i at_ hi hd hle
    obtain rfl : i = xs.length := by omega
    rw [List.drop_length, flat] at hd
    have hl : F.length ≤ at_ := List.drop_eq_nil_iff.1 hd
    have e := fixH_len F
    refine Ev.le 1 fun k => ?_
    simp only [signalbenchlaw44_TrigautoHolds.l0, trigauto_Memory.f, awake_is, Option.bind_some]
    rw [if_neg (by omega), if_pos (by omega), if_pos (by omega)]
  | succ d ih =>
    intro i at_ hi hd hle
    have hlt : i < xs.length := by omega
    have hpi := (hall xs[i] (List.getElem_mem _)).t
    have hti := hT xs[i] (List.getElem_mem _)
    have e2 : wrap64 ((i : Int) + 1) = ((i + 1 : Nat) : Int) := by rw [wr_in (by omega)]; omega
    rw [flat_drop hlt] at hd
    have hlen : at_ + xs[i].f1.toNat ≤ F.length := by
      have := congrArg List.length hd
      rw [List.length_drop, List.length_append, List.length_replicate] at this
      omega
    have hd2 : F.drop (at_ + xs[i].f1.toNat) = flat ns (xs.drop (i + 1)) := by
      rw [← List.drop_drop, hd, List.drop_left' (by rw [List.length_replicate])]
    have hnext := ih (i + 1) (at_ + xs[i].f1.toNat) (by omega) hd2 hlen
    rw [← e2] at hnext
    have := th_l1 D ns on oa ek fr tt va au da fa s xs (fixH F) F rfl hF i xs[i] (hall _ (List.getElem_mem _)) hti _ xs[i].f1.toNat 0 at_ (by omega) hd hnext
    refine Ev.step (fun k => ?_) this
    simp only [signalbenchlaw44_TrigautoHolds.l0, rd64 xs i hlt]
    rw [if_pos (by omega), if_pos (by omega)]
    rfl
theorem tsum_mem {l : List S64} (hp : ∀ x ∈ l, 1 ≤ x.f1) : ∀ x ∈ l, x.f1 ≤ tsum l := by
  induction l with
  | nil => intro x hx; cases hx
  | cons y l ih =>
    intro x hx
    have h1 := tsum_ge (l := l) fun z hz => hp z (List.mem_cons_of_mem _ hz)
    have h2 := hp y (List.mem_cons_self ..)
    simp only [tsum]
    rcases List.mem_cons.1 hx with rfl | hx
    · omega
    · have := ih (fun z hz => hp z (List.mem_cons_of_mem _ hz)) x hx; omega
theorem tholds_pure : ∃ k, signalbenchlaw44_TrigautoHolds.f k s xs D ns on oa ek fr tt va au da fa = some true := by
  refine Ev.rounds ?_
  unfold signalbenchlaw44_TrigautoHolds.f
  refine (compile_ev s xs D ns).bind ?_
  unfold compT
  by_cases c : tcErr s xs ns = 0
  · simp only [if_pos c, if_true]
    have hf := fine_of c
    obtain ⟨h1, h2, h3, h4⟩ := wrErr_len (tcErr_zero c).1
    have hp := fun x hx => (hf x hx).t
    have hl := flat_len (ns := ns) hp
    have := th_l0 D ns on oa ek fr tt va au da fa s xs (flat ns xs) (by omega) h2 hf (fun x hx => by have := tsum_mem hp x hx; omega) xs.length 0 0 (by omega) (by rw [List.drop_zero, List.drop_zero]) (by omega)
    exact this
  · simp only [if_neg c]
    refine Ev.some_ fun _ => ?_
    simp only [awake_is, Option.bind_some]
    rfl
end
theorem tholds_pure2 (s : ByteArray) (xs : List S64) (D : List S139) (ns : List S100) (on oa ek fr tt va au : Int) (da : ByteArray) (fa : Int) : ∃ k, signalbenchlaw44_TrigautoHolds.f k s xs D ns on oa ek fr tt va au da fa = some true := tholds_pure D ns on oa ek fr tt va au da fa s xs
end Go.Proofs.Ytgdjiphljadlcaa.H
