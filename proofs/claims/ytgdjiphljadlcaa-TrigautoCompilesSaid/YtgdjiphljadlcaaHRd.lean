/- The same of the specification, for a stack of any readable length; plain laws over the printed functions. -/
import Derived.Test.YtgdjiphljadlcaaHQd
import Derived.Test.YtgdjiphljadlcaaH18
import Derived.Test.YtgdjiphljadlcaaH20
namespace Go.Proofs.Ytgdjiphljadlcaa.H
open Go.RowKit Go.Proofs.YtgdjiphljadlcaaW.PrintWords Go.Proofs.YtgdjiphljadlcaaW.PrintLast Go.Proofs.YtgdjiphljadlcaaW.PrintMore
set_option linter.unusedSimpArgs false
theorem rletter_eq (c : Int) : signalbenchref05_letter.f c = some (letB c) := by
  simp only [signalbenchref05_letter.f, letB]
  by_cases h : c ≥ 97
  · rw [if_pos h]; congr 1; exact decide_eq_decide.2 (by omega)
  · rw [if_neg h, decide_eq_false (by omega)]
theorem rword_eq (c : Int) : signalbenchref05_inner.f c = some (wordB c) := by
  simp only [signalbenchref05_inner.f, rletter_eq, Option.bind_some, signalbenchref05_digit.f, wordB, letB, decide_eq_true_eq]
  by_cases h : 97 ≤ c ∧ c ≤ 122
  · rw [if_pos h, decide_eq_true (Or.inl h)]
  · rw [if_neg h]
    by_cases h2 : c ≥ 48
    · rw [if_pos h2]
      simp only [Option.bind_some, decide_eq_true_eq]
      by_cases h3 : c ≤ 57
      · rw [if_pos h3, decide_eq_true (by omega)]
      · rw [if_neg h3, beq_dec]; congr 1; exact decide_eq_decide.2 (by omega)
    · rw [if_neg h2]
      simp only [Option.bind_some, Bool.false_eq_true, if_false]
      rw [beq_dec]; congr 1; exact decide_eq_decide.2 (by omega)
theorem rname_l0 (s : ByteArray) (hs : s.size ≤ 16) : ∀ d i, i + d = s.size → Ev (fun k => signalbenchref05_Name.l0 k s (i : Int)) (wordsB s d i) := by
  intro d
  induction d with
  | zero =>
    intro i hi
    refine Ev.le 1 fun k => ?_
    simp only [signalbenchref05_Name.l0, wordsB]
    rw [if_neg (by omega)]
  | succ d ih =>
    intro i hi
    have e2 : wrap64 ((i : Int) + 1) = ((i + 1 : Nat) : Int) := by rw [wr_in (by omega)]; omega
    refine Ev.step (f := fun k => if wordB (bt s i) = true then signalbenchref05_Name.l0 k s ((i + 1 : Nat) : Int) else some false) (fun k => ?_) ?_
    · simp only [signalbenchref05_Name.l0, rword_eq, Option.bind_some, e2]
      rw [if_pos (by omega), if_pos (by omega)]
    · simp only [wordsB]
      cases wordB (bt s i)
      · simp only [Bool.false_eq_true, if_false, Bool.false_and]; exact Ev.now _
      · simp only [if_true, Bool.true_and]; exact ih (i + 1) (by omega)
theorem rname_ev (s : ByteArray) : Ev (fun k => signalbenchref05_Name.f k s) (nameB s) := by
  unfold signalbenchref05_Name.f nameB
  have hj : Ev (fun k => signalbenchref05_Name.j0 k s true) false := Ev.le 1 fun k => by simp only [signalbenchref05_Name.j0, if_true]
  by_cases c1 : (s.size : Int) < 1
  · simp only [if_pos c1]
    rw [decide_eq_false (by omega), Bool.false_and]
    exact hj
  · simp only [if_neg c1]
    by_cases c2 : (s.size : Int) > 16
    · simp only [if_pos c2]
      rw [decide_eq_false (by omega), Bool.false_and]
      exact hj
    · simp only [if_neg c2, if_pos (show 0 < (s.size : Int) by omega), rletter_eq, Option.bind_some]
      rw [decide_eq_true (by omega), Bool.true_and]
      cases letB (bt s 0)
      · simpa using hj
      · refine Ev.step (f := fun k => signalbenchref05_Name.l0 k s 0) (fun k => ?_) ?_
        · simp [signalbenchref05_Name.j0]
        · simpa using rname_l0 s (by omega) s.size 0 (by omega)
theorem rwcond_ev (x : S62) : Ev (fun k => signalbenchref43_WrongCond.f k x.f0 x.f1 x.f2 x.f3 x.f4) (wcErr x) := by
  unfold signalbenchref43_WrongCond.f wcErr
  refine (rname_ev x.f0).bind ?_
  by_cases c : nameB x.f0 = true
  · simp only [if_pos c]
    refine Ev.le 3 fun k => ?_
    simp only [signalbenchref43_WrongCond.j0, signalbenchref43_WrongCond.j1, fErr, decide_eq_true_eq, bne_iff_ne, ne_eq, if_true, Bool.false_eq_true, if_false, ite_some]
    congr 1
    omega
  · simp only [if_neg c]
    exact Ev.now _
theorem rwstep_ev (x : S64) : Ev (fun k => signalbenchref43_wrongStep.f k x.f0.f0 x.f0.f1 x.f0.f2 x.f0.f3 x.f0.f4 x.f1 x.f2 x.f3 x.f4.f0 x.f4.f1 x.f4.f2 x.f4.f3 x.f4.f4) (wsErr x) := by
  unfold signalbenchref43_wrongStep.f wsErr
  have key : ∀ b, Ev (fun k => signalbenchref43_wrongStep.j0 k b x.f0.f0 x.f0.f1 x.f0.f2 x.f0.f3 x.f0.f4 x.f1 x.f2 x.f3 x.f4.f0 x.f4.f1 x.f4.f2 x.f4.f3 x.f4.f4) (if b = true then 1 else if wcErr x.f0 = 0 then (if x.f3 = true then wcErr x.f4 else if nzB x.f4 = true then 1 else 0) else wcErr x.f0) := by
    intro b
    cases b
    · refine Ev.step (f := fun k => (signalbenchref43_WrongCond.f k x.f0.f0 x.f0.f1 x.f0.f2 x.f0.f3 x.f0.f4).bind fun t => if t = 0 then (if x.f3 = true then ((signalbenchref43_WrongCond.f k x.f4.f0 x.f4.f1 x.f4.f2 x.f4.f3 x.f4.f4).bind fun t => some t) else some (if nzB x.f4 = true then 1 else 0)) else some t) (fun k => ?_) ?_
      · simp only [signalbenchref43_wrongStep.j0, Bool.false_eq_true, if_false, nzB, ite_some]
        rfl
      · refine (rwcond_ev x.f0).bind ?_
        simp only [Bool.false_eq_true, if_false]
        by_cases c : wcErr x.f0 = 0
        · simp only [if_pos c]
          by_cases c2 : x.f3 = true
          · simp only [if_pos c2]
            exact (rwcond_ev x.f4).bind (Ev.now _)
          · simp only [if_neg c2]
            exact Ev.now _
        · simp only [if_neg c]
          exact Ev.now _
    · refine Ev.le 1 fun k => ?_
      simp only [signalbenchref43_wrongStep.j0, if_true]
  by_cases c1 : x.f1 < 1
  · simp only [if_pos c1, if_pos (show x.f1 < 1 ∨ x.f2 < 0 ∨ x.f2 > 1099511627776 from Or.inl c1)]
    simpa using key true
  · simp only [if_neg c1]
    by_cases c2 : x.f2 < 0
    · simp only [if_pos c2, if_pos (show x.f1 < 1 ∨ x.f2 < 0 ∨ x.f2 > 1099511627776 from Or.inr (Or.inl c2))]
      simpa using key true
    · simp only [if_neg c2]
      by_cases c3 : x.f2 > 1099511627776
      · simp only [decide_eq_true c3, if_pos (show x.f1 < 1 ∨ x.f2 < 0 ∨ x.f2 > 1099511627776 from Or.inr (Or.inr c3))]
        simpa using key true
      · simp only [decide_eq_false c3, if_neg (show ¬ (x.f1 < 1 ∨ x.f2 < 0 ∨ x.f2 > 1099511627776) by omega)]
        simpa only [Bool.false_eq_true, if_false] using key false
theorem sum_l1 (s : ByteArray) (xs : List S64) (hx : xs.length ≤ 32) (hp : ∀ x ∈ xs, 1 ≤ x.f1) : ∀ d i (acc : Int), i + d = xs.length → 0 ≤ acc → acc ≤ 32 * i → Ev (fun k => signalbenchref43_wrong.l1 k acc (i : Int) s xs) (if acc + tsum (xs.drop i) > 32 then 6 else 0) := by
  intro d
  induction d with
  | zero =>
    intro i acc hi _ _
    obtain rfl : i = xs.length := by omega
    refine Ev.le 1 fun k => ?_
    simp only [signalbenchref43_wrong.l1]
    rw [if_neg (by omega), List.drop_length, tsum, Int.add_zero, ite_some]
  | succ d ih =>
    intro i acc hi h0 h1
    have hlt : i < xs.length := by omega
    have e2 : wrap64 ((i : Int) + 1) = ((i + 1 : Nat) : Int) := by rw [wr_in (by omega)]; omega
    have hpi := hp xs[i] (List.getElem_mem _)
    have hge := tsum_ge (l := xs.drop (i + 1)) fun y hy => hp y (List.mem_of_mem_drop hy)
    have ht : tsum (xs.drop i) = xs[i].f1 + tsum (xs.drop (i + 1)) := by rw [List.drop_eq_getElem_cons hlt, tsum]
    by_cases c : xs[i].f1 > 32
    · refine Ev.le 1 fun k => ?_
      simp only [signalbenchref43_wrong.l1, rd64 xs i hlt]
      rw [if_pos (by omega), if_pos (by omega), if_pos c, if_pos (by omega)]
    · have e3 : wrap64 (acc + xs[i].f1) = acc + xs[i].f1 := wr_in (by omega)
      have := ih (i + 1) (acc + xs[i].f1) (by omega) (by omega) (by omega)
      have e4 : (if acc + xs[i].f1 + tsum (xs.drop (i + 1)) > 32 then (6 : Int) else 0) = (if acc + tsum (xs.drop i) > 32 then 6 else 0) := by omega
      rw [e4] at this
      refine Ev.step (fun k => ?_) this
      simp only [signalbenchref43_wrong.l1, rd64 xs i hlt, e2, e3]
      rw [if_pos (by omega), if_pos (by omega), if_neg c]
theorem rwrong_ev (s : ByteArray) (xs : List S64) : Ev (fun k => signalbenchref43_wrong.f k s xs) (wrErr s xs) := by
  unfold signalbenchref43_wrong.f wrErr
  refine (rname_ev s).bind ?_
  by_cases c0 : nameB s = true
  · simp only [if_pos c0]
    by_cases c1 : (xs.length : Int) = 0
    · simp only [if_pos c1]; exact Ev.now _
    · simp only [if_neg c1]
      by_cases c2 : (xs.length : Int) > 32
      · simp only [if_pos c2]; exact Ev.now _
      · simp only [if_neg c2]
        refine wsAll_ev xs (fun k i => signalbenchref43_wrong.l0 k i s xs) _ ?_ ?_ xs.length 0 (by omega) (by simp)
        · intro hp
          have := sum_l1 s xs (by omega) (fun x hx => (wsErr_times (hp x hx)).1) xs.length 0 0 (by omega) (by omega) (by omega)
          rw [List.drop_zero, Int.zero_add] at this
          refine Ev.step (fun k => ?_) this
          simp only [signalbenchref43_wrong.l0]
          rw [if_neg (by omega)]
          rfl
        · intro i hi r hr
          have e2 : wrap64 ((i : Int) + 1) = ((i + 1 : Nat) : Int) := by rw [wr_in (by omega)]; omega
          refine Ev.step (f := fun k => (signalbenchref43_wrongStep.f k xs[i].f0.f0 xs[i].f0.f1 xs[i].f0.f2 xs[i].f0.f3 xs[i].f0.f4 xs[i].f1 xs[i].f2 xs[i].f3 xs[i].f4.f0 xs[i].f4.f1 xs[i].f4.f2 xs[i].f4.f3 xs[i].f4.f4).bind fun t => if t = 0 then signalbenchref43_wrong.l0 k ((i + 1 : Nat) : Int) s xs else some t) (fun k => ?_) ((rwstep_ev xs[i]).bind hr)
          simp only [signalbenchref43_wrong.l0, rd64 xs i hi, e2]
          rw [if_pos (by omega), if_pos (by omega)]
  · simp only [if_neg c0]
    exact Ev.now _
section
variable (D : List S139) (ns : List S100) (hn : ns.length ≤ 9223372036854775807)
include hn
theorem rfind_ev (a : ByteArray) : Ev (fun k => signalbenchref43_find.f k D ns a) (findN a ns 0) := by
  unfold signalbenchref43_find.f
  have := ev_drop ns (fun k i => signalbenchref43_find.l0 k a i D ns) (fun l i => findN a l i) ?_ ?_ ns.length 0 (by omega)
  · simpa using this
  · refine Ev.le 1 fun k => ?_
    simp only [signalbenchref43_find.l0, findN]
    rw [if_neg (by omega)]
  · intro i hi ih
    have e2 : wrap64 ((i : Int) + 1) = ((i + 1 : Nat) : Int) := by rw [wr_in (by omega)]; omega
    refine Ev.step (f := fun k => if ns[i].f0.toList = a.toList then some (i : Int) else signalbenchref43_find.l0 k a ((i + 1 : Nat) : Int) D ns) (fun k => ?_) ?_
    · simp only [signalbenchref43_find.l0, rd100 ns i hi, e2]
      rw [if_pos (by omega), if_pos (by omega)]
    · simp only [findN]
      by_cases c : ns[i].f0.toList = a.toList
      · simp only [if_pos c]; exact Ev.now _
      · simp only [if_neg c]; exact ih
theorem r39find_ev (a : ByteArray) : Ev (fun k => signalbenchref39_Find.f k D ns a) (findN a ns 0) := by
  unfold signalbenchref39_Find.f
  have := ev_drop ns (fun k i => signalbenchref39_Find.l0 k a i D ns) (fun l i => findN a l i) ?_ ?_ ns.length 0 (by omega)
  · simpa using this
  · refine Ev.le 1 fun k => ?_
    simp only [signalbenchref39_Find.l0, findN]
    rw [if_neg (by omega)]
  · intro i hi ih
    have e2 : wrap64 ((i : Int) + 1) = ((i + 1 : Nat) : Int) := by rw [wr_in (by omega)]; omega
    refine Ev.step (f := fun k => if ns[i].f0.toList = a.toList then some (i : Int) else signalbenchref39_Find.l0 k a ((i + 1 : Nat) : Int) D ns) (fun k => ?_) ?_
    · simp only [signalbenchref39_Find.l0, rd100 ns i hi, e2]
      rw [if_pos (by omega), if_pos (by omega)]
    · simp only [findN]
      by_cases c : ns[i].f0.toList = a.toList
      · simp only [if_pos c]; exact Ev.now _
      · simp only [if_neg c]; exact ih
end
theorem rtcheck_ev (s : ByteArray) (xs : List S64) (D : List S139) (ns : List S100) (hn : ns.length ≤ 9223372036854775807) : Ev (fun k => signalbenchref43_Check.f k s xs D ns) (tcErr s xs ns) := by
  unfold signalbenchref43_Check.f tcErr
  refine (rwrong_ev s xs).bind ?_
  by_cases c : wrErr s xs = 0
  · simp only [if_pos c]
    obtain ⟨h1, h2, _, _⟩ := wrErr_len c
    have := ev_drop xs (fun k i => signalbenchref43_Check.l0 k i s xs D ns) (fun l _ => nErr ns l) ?_ ?_ xs.length 0 (by omega)
    · simpa using this
    · refine Ev.le 1 fun k => ?_
      simp only [signalbenchref43_Check.l0, nErr]
      rw [if_neg (by omega)]
    · intro i hi ih
      have e2 : wrap64 ((i : Int) + 1) = ((i + 1 : Nat) : Int) := by rw [wr_in (by omega)]; omega
      simp only [nErr]
      refine Ev.step (f := fun k => (signalbenchref43_find.f k D ns xs[i].f0.f0).bind fun t => if t < 0 then some 8 else if xs[i].f3 = true then ((signalbenchref43_find.f k D ns xs[i].f4.f0).bind fun t => if t < 0 then some 8 else signalbenchref43_Check.l0 k ((i + 1 : Nat) : Int) s xs D ns) else signalbenchref43_Check.l0 k ((i + 1 : Nat) : Int) s xs D ns) (fun k => ?_) ?_
      · simp only [signalbenchref43_Check.l0, rd64 xs i hi, e2]
        rw [if_pos (by omega), if_pos (by omega)]
      · refine (rfind_ev D ns hn xs[i].f0.f0).bind ?_
        by_cases c1 : findN xs[i].f0.f0 ns 0 < 0
        · simp only [if_pos c1]; exact Ev.now _
        · simp only [if_neg c1]
          by_cases c2 : xs[i].f3 = true
          · simp only [if_pos c2]
            refine (rfind_ev D ns hn xs[i].f4.f0).bind ?_
            by_cases c3 : findN xs[i].f4.f0 ns 0 < 0
            · simp only [if_pos c3, if_pos (And.intro c2 c3)]; exact Ev.now _
            · simp only [if_neg c3, if_neg (fun h : xs[i].f3 = true ∧ findN xs[i].f4.f0 ns 0 < 0 => c3 h.2)]; exact ih
          · simp only [if_neg c2, if_neg (fun h : xs[i].f3 = true ∧ findN xs[i].f4.f0 ns 0 < 0 => c2 h.1)]; exact ih
  · simp only [if_neg c]
    exact Ev.now _
end Go.Proofs.Ytgdjiphljadlcaa.H
