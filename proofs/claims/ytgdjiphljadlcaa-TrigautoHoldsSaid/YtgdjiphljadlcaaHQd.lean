/- What the checks of triggers come to; plain laws over the printed functions, no condition. -/
import Derived.Test.YtgdjiphljadlcaaHQb
import Derived.Test.YtgdjiphljadlcaaH9
import Derived.Test.YtgdjiphljadlcaaHFind
namespace Go.Proofs.Ytgdjiphljadlcaa.H
open Go.RowKit Go.Proofs.YtgdjiphljadlcaaW.PrintWords Go.Proofs.YtgdjiphljadlcaaW.PrintLast Go.Proofs.YtgdjiphljadlcaaW.PrintMore
set_option linter.unusedSimpArgs false
def letB (c : Int) : Bool := decide (97 ≤ c ∧ c ≤ 122)
def wordB (c : Int) : Bool := decide ((97 ≤ c ∧ c ≤ 122) ∨ (48 ≤ c ∧ c ≤ 57) ∨ c = 95)
theorem letter_eq (c : Int) : lex_letter.f c = some (letB c) := by
  simp only [lex_letter.f, letB]
  by_cases h : 97 ≤ c
  · rw [if_pos h]; congr 1; exact decide_eq_decide.2 (by omega)
  · rw [if_neg h, decide_eq_false (by omega)]
theorem beq_dec (a b : Int) : (a == b) = decide (a = b) := by rw [Bool.eq_iff_iff]; simp
theorem word_eq (c : Int) : lex_word.f c = some (wordB c) := by
  simp only [lex_word.f, letter_eq, Option.bind_some, lex_digit.f, wordB, letB, decide_eq_true_eq]
  by_cases h : 97 ≤ c ∧ c ≤ 122
  · rw [if_pos h, decide_eq_true (Or.inl h)]
  · rw [if_neg h]
    by_cases h2 : 48 ≤ c
    · rw [if_pos h2]
      simp only [Option.bind_some, decide_eq_true_eq]
      by_cases h3 : c ≤ 57
      · rw [if_pos h3, decide_eq_true (by omega)]
      · rw [if_neg h3, beq_dec]; congr 1; exact decide_eq_decide.2 (by omega)
    · rw [if_neg h2]
      simp only [Option.bind_some, Bool.false_eq_true, if_false]
      rw [beq_dec]; congr 1; exact decide_eq_decide.2 (by omega)
/-- are all bytes of s from i on, d of them, bytes of a name? -/
def wordsB (s : ByteArray) : Nat → Nat → Bool
  | 0, _ => true
  | d + 1, i => wordB (bt s i) && wordsB s d (i + 1)
def nameB (s : ByteArray) : Bool := decide (1 ≤ s.size ∧ s.size ≤ 16) && (letB (bt s 0) && wordsB s s.size 0)
theorem w32 (s : ByteArray) (i : Int) : wrap32 (bt s i) = bt s i := by have := bt_range s i; unfold wrap32; omega
theorem name_l0 (s : ByteArray) (hs : s.size ≤ 16) : ∀ d i, i + d = s.size → Ev (fun k => lex_Name.l0 k s (s.size : Int) (i : Int)) (wordsB s d i) := by
  intro d
  induction d with
  | zero =>
    intro i hi
    refine Ev.le 1 fun k => ?_
    simp only [lex_Name.l0, wordsB]
    rw [if_neg (by omega)]
  | succ d ih =>
    intro i hi
    have e2 : wrap64 ((i : Int) + 1) = ((i + 1 : Nat) : Int) := by rw [wr_in (by omega)]; omega
    refine Ev.step (f := fun k => if wordB (bt s i) = true then lex_Name.l0 k s (s.size : Int) ((i + 1 : Nat) : Int) else some false) (fun k => ?_) ?_
    · simp only [lex_Name.l0, w32, word_eq, Option.bind_some, e2]
      rw [if_pos (by omega), if_pos (by omega), if_pos (by omega)]
    · simp only [wordsB]
      cases wordB (bt s i)
      · simp only [Bool.false_eq_true, if_false, Bool.false_and]; exact Ev.now _
      · simp only [if_true, Bool.true_and]; exact ih (i + 1) (by omega)
theorem name_ev (s : ByteArray) : Ev (fun k => lex_Name.f k s) (nameB s) := by
  unfold lex_Name.f nameB
  have hj : Ev (fun k => lex_Name.j0 k s true) false := Ev.le 1 fun k => by simp only [lex_Name.j0, if_true]
  by_cases c1 : s.toList = []
  · have c1' := toList_nil.1 c1
    simp only [if_pos c1]
    rw [decide_eq_false (by omega), Bool.false_and]
    exact hj
  · have c1' : ¬ (s.size : Int) = 0 := fun h => c1 (toList_nil.2 h)
    simp only [if_neg c1]
    by_cases c2 : (s.size : Int) > 16
    · simp only [if_pos c2]
      rw [decide_eq_false (by omega), Bool.false_and]
      exact hj
    · simp only [if_neg c2, if_pos (show 0 < (s.size : Int) by omega), w32, letter_eq, Option.bind_some]
      rw [decide_eq_true (by omega), Bool.true_and]
      cases letB (bt s 0)
      · simpa using hj
      · refine Ev.step (f := fun k => lex_Name.l0 k s (s.size : Int) 0) (fun k => ?_) ?_
        · simp [lex_Name.j0]
        · simpa using name_l0 s (by omega) s.size 0 (by omega)
/-- the error of a condition -/
def wcErr (x : S62) : Int := if nameB x.f0 = true then fErr x.f1 x.f2 x.f3 x.f4 else 4
theorem wcond_ev (x : S62) : Ev (fun k => trig_wrongCond.f k x.f0 x.f1 x.f2 x.f3 x.f4) (wcErr x) := by
  unfold trig_wrongCond.f wcErr
  refine (name_ev x.f0).bind ?_
  by_cases c : nameB x.f0 = true
  · simp only [if_pos c]
    refine Ev.le 3 fun k => ?_
    simp only [trig_wrongCond.j0, trig_wrongCond.j1, trig_wrongCond.j2, fErr, decide_eq_true_eq, bne_iff_ne, ne_eq, if_true, Bool.false_eq_true, if_false, ite_some]
    congr 1
    omega
  · simp only [if_neg c]
    exact Ev.now _
/-- is a condition not the empty one, as the walk says it -/
def nzB (x : S62) : Bool := !(x.f0.toList == ([] : List UInt8)) || (!(x.f1 == 0) || (!(x.f2 == 0) || (!(x.f3 == 0) || (!(x.f4 == 0)))))
/-- the error of a step -/
def wsErr (x : S64) : Int :=
  if x.f1 < 1 ∨ x.f2 < 0 ∨ x.f2 > 1099511627776 then 1
  else if wcErr x.f0 = 0 then (if x.f3 = true then wcErr x.f4 else if nzB x.f4 = true then 1 else 0) else wcErr x.f0
theorem wstep_ev (x : S64) : Ev (fun k => trig_wrongStep.f k x.f0.f0 x.f0.f1 x.f0.f2 x.f0.f3 x.f0.f4 x.f1 x.f2 x.f3 x.f4.f0 x.f4.f1 x.f4.f2 x.f4.f3 x.f4.f4) (wsErr x) := by
  unfold trig_wrongStep.f wsErr
  have key : ∀ b, Ev (fun k => trig_wrongStep.j0 k b x.f0.f0 x.f0.f1 x.f0.f2 x.f0.f3 x.f0.f4 x.f1 x.f2 x.f3 x.f4.f0 x.f4.f1 x.f4.f2 x.f4.f3 x.f4.f4) (if b = true then 1 else if wcErr x.f0 = 0 then (if x.f3 = true then wcErr x.f4 else if nzB x.f4 = true then 1 else 0) else wcErr x.f0) := by
    intro b
    cases b
    · refine Ev.step (f := fun k => (trig_wrongCond.f k x.f0.f0 x.f0.f1 x.f0.f2 x.f0.f3 x.f0.f4).bind fun t => if t = 0 then (if x.f3 = true then ((trig_wrongCond.f k x.f4.f0 x.f4.f1 x.f4.f2 x.f4.f3 x.f4.f4).bind fun t => some t) else some (if nzB x.f4 = true then 1 else 0)) else some t) (fun k => ?_) ?_
      · simp only [trig_wrongStep.j0, Bool.false_eq_true, if_false, nzB, ite_some]
        rfl
      · refine (wcond_ev x.f0).bind ?_
        simp only [Bool.false_eq_true, if_false]
        by_cases c : wcErr x.f0 = 0
        · simp only [if_pos c]
          by_cases c2 : x.f3 = true
          · simp only [if_pos c2]
            exact (wcond_ev x.f4).bind (Ev.now _)
          · simp only [if_neg c2]
            exact Ev.now _
        · simp only [if_neg c]
          exact Ev.now _
    · refine Ev.le 1 fun k => ?_
      simp only [trig_wrongStep.j0, if_true]
  by_cases c1 : x.f1 < 1
  · simp only [if_pos c1, if_pos (show x.f1 < 1 ∨ x.f2 < 0 ∨ x.f2 > 1099511627776 from Or.inl c1)]
    simpa using key true
  · simp only [if_neg c1]
    by_cases c2 : x.f2 < 0
    · simp only [if_pos c2, if_pos (show x.f1 < 1 ∨ x.f2 < 0 ∨ x.f2 > 1099511627776 from Or.inr (Or.inl c2))]
      simpa using key true
    · simp only [if_neg c2]
      by_cases c3 : x.f2 > 1099511627776
      · simp only [decide_eq_true c3, if_pos (show x.f1 < 1 ∨ x.f2 < 0 ∨ x.f2 > 1099511627776 from Or.inr (Or.inr c3))]
        simpa using key true
      · simp only [decide_eq_false c3, if_neg (show ¬ (x.f1 < 1 ∨ x.f2 < 0 ∨ x.f2 > 1099511627776) by omega)]
        simpa only [Bool.false_eq_true, if_false] using key false
theorem rd64 (xs : List S64) (i : Nat) (h : i < xs.length) : rd_T64 xs (i : Int) = xs[i] := by
  simp only [rd_T64, Int.toNat_natCast]
  rw [List.getD_eq_getElem?_getD, List.getElem?_eq_getElem h, Option.getD_some]
theorem rd100 (xs : List S100) (i : Nat) (h : i < xs.length) : rd_T100 xs (i : Int) = xs[i] := by
  simp only [rd_T100, Int.toNat_natCast]
  rw [List.getD_eq_getElem?_getD, List.getElem?_eq_getElem h, Option.getD_some]
/-- the first error of steps; e is what follows if there is none -/
def wsAll (e : Int) : List S64 → Int
  | [] => e
  | x :: l => if wsErr x = 0 then wsAll e l else wsErr x
def tsum : List S64 → Int
  | [] => 0
  | x :: l => x.f1 + tsum l
theorem tsum_ge {l : List S64} (h : ∀ x ∈ l, 1 ≤ x.f1) : (l.length : Int) ≤ tsum l := by
  induction l with
  | nil => simp [tsum]
  | cons x l ih =>
    have := ih fun y hy => h y (List.mem_cons_of_mem _ hy)
    have := h x (List.mem_cons_self ..)
    simp only [tsum, List.length_cons]
    omega
theorem wsAll_pos {e : Int} {l : List S64} (h : wsAll e l = 0) : ∀ x ∈ l, wsErr x = 0 := by
  induction l with
  | nil => intro x hx; cases hx
  | cons y l ih =>
    intro x hx
    simp only [wsAll] at h
    by_cases c : wsErr y = 0
    · rw [if_pos c] at h
      rcases List.mem_cons.1 hx with rfl | hx
      · exact c
      · exact ih h x hx
    · rw [if_neg c] at h
      exact absurd h c
theorem wsErr_times {x : S64} (h : wsErr x = 0) : 1 ≤ x.f1 ∧ 0 ≤ x.f2 ∧ x.f2 ≤ 1099511627776 := by
  unfold wsErr at h
  by_cases c : x.f1 < 1 ∨ x.f2 < 0 ∨ x.f2 > 1099511627776
  · rw [if_pos c] at h; omega
  · omega
theorem left_l1 (xs : List S64) (hx : xs.length ≤ 32) (hp : ∀ x ∈ xs, 1 ≤ x.f1) : ∀ d i (left : Int), i + d = xs.length → 0 ≤ left → left ≤ 32 → Ev (fun k => trig_wrong.l1 k left xs (xs.length : Int) (i : Int)) (if tsum (xs.drop i) > left then 6 else 0) := by
  intro d
  induction d with
  | zero =>
    intro i left hi _ _
    obtain rfl : i = xs.length := by omega
    refine Ev.le 1 fun k => ?_
    simp only [trig_wrong.l1]
    rw [if_neg (by omega), List.drop_length, tsum, if_neg (by omega)]
  | succ d ih =>
    intro i left hi h0 h1
    have hlt : i < xs.length := by omega
    have e2 : wrap64 ((i : Int) + 1) = ((i + 1 : Nat) : Int) := by rw [wr_in (by omega)]; omega
    have hpi := hp xs[i] (List.getElem_mem _)
    have hge := tsum_ge (l := xs.drop (i + 1)) fun y hy => hp y (List.mem_of_mem_drop hy)
    have ht : tsum (xs.drop i) = xs[i].f1 + tsum (xs.drop (i + 1)) := by rw [List.drop_eq_getElem_cons hlt, tsum]
    by_cases c : xs[i].f1 > left
    · refine Ev.le 1 fun k => ?_
      simp only [trig_wrong.l1, rd64 xs i hlt]
      rw [if_pos (by omega), if_pos (by omega), if_pos (by omega), if_pos c, if_pos (by omega)]
    · have e3 : wrap64 (left - xs[i].f1) = left - xs[i].f1 := wr_in (by omega)
      have := ih (i + 1) (left - xs[i].f1) (by omega) (by omega) (by omega)
      have e4 : (if tsum (xs.drop (i + 1)) > left - xs[i].f1 then (6 : Int) else 0) = (if tsum (xs.drop i) > left then 6 else 0) := by omega
      rw [e4] at this
      refine Ev.step (fun k => ?_) this
      simp only [trig_wrong.l1, rd64 xs i hlt, e2, e3]
      rw [if_pos (by omega), if_pos (by omega), if_pos (by omega), if_neg c]
/-- the error of a trigger, whatever the stack is -/
def wrErr (s : ByteArray) (xs : List S64) : Int :=
  if nameB s = true then if (xs.length : Int) = 0 then 1 else if (xs.length : Int) > 32 then 6 else wsAll (if tsum xs > 32 then 6 else 0) xs else 4
/-- the loop over the steps: after it, what comes if all are right -/
theorem wsAll_ev (xs : List S64) (G : Nat → Int → Option Int) (e : Int)
    (hend : (∀ x ∈ xs, wsErr x = 0) → Ev (fun k => G k (xs.length : Int)) e)
    (hstep : ∀ i (h : i < xs.length), (∀ r, Ev (fun k => if wsErr xs[i] = 0 then G k ((i + 1 : Nat) : Int) else some (wsErr xs[i])) r → Ev (fun k => G k (i : Int)) r)) :
    ∀ d i, i + d = xs.length → (∀ x ∈ xs.take i, wsErr x = 0) → Ev (fun k => G k (i : Int)) (wsAll e (xs.drop i)) := by
  intro d
  induction d with
  | zero =>
    intro i hi hp
    obtain rfl : i = xs.length := by omega
    rw [List.drop_length]
    rw [List.take_length] at hp
    exact hend hp
  | succ d ih =>
    intro i hi hp
    have hlt : i < xs.length := by omega
    rw [List.drop_eq_getElem_cons hlt]
    refine hstep i hlt _ ?_
    simp only [wsAll]
    by_cases c : wsErr xs[i] = 0
    · simp only [if_pos c]
      refine ih (i + 1) (by omega) fun x hx => ?_
      rw [List.take_succ_eq_append_getElem hlt, List.mem_append] at hx
      rcases hx with hx | hx
      · exact hp x hx
      · rw [List.mem_singleton.1 hx]; exact c
    · simp only [if_neg c]
      exact Ev.now _
theorem wrong_ev (s : ByteArray) (xs : List S64) : Ev (fun k => trig_wrong.f k s xs) (wrErr s xs) := by
  unfold trig_wrong.f wrErr
  refine (name_ev s).bind ?_
  by_cases c0 : nameB s = true
  · simp only [if_pos c0]
    by_cases c1 : (xs.length : Int) = 0
    · simp only [if_pos c1]; exact Ev.now _
    · simp only [if_neg c1]
      by_cases c2 : (xs.length : Int) > 32
      · simp only [if_pos c2]; exact Ev.now _
      · simp only [if_neg c2]
        refine wsAll_ev xs (fun k i => trig_wrong.l0 k xs (xs.length : Int) i s xs) _ ?_ ?_ xs.length 0 (by omega) (by simp)
        · intro hp
          have := left_l1 xs (by omega) (fun x hx => (wsErr_times (hp x hx)).1) xs.length 0 32 (by omega) (by omega) (by omega)
          rw [List.drop_zero] at this
          refine Ev.step (fun k => ?_) this
          simp only [trig_wrong.l0]
          rw [if_neg (by omega)]
          rfl
        · intro i hi r hr
          have e2 : wrap64 ((i : Int) + 1) = ((i + 1 : Nat) : Int) := by rw [wr_in (by omega)]; omega
          refine Ev.step (f := fun k => (trig_wrongStep.f k xs[i].f0.f0 xs[i].f0.f1 xs[i].f0.f2 xs[i].f0.f3 xs[i].f0.f4 xs[i].f1 xs[i].f2 xs[i].f3 xs[i].f4.f0 xs[i].f4.f1 xs[i].f4.f2 xs[i].f4.f3 xs[i].f4.f4).bind fun t => if t = 0 then trig_wrong.l0 k xs (xs.length : Int) ((i + 1 : Nat) : Int) s xs else some t) (fun k => ?_) ((wstep_ev xs[i]).bind hr)
          simp only [trig_wrong.l0, rd64 xs i hi, e2]
          rw [if_pos (by omega), if_pos (by omega), if_pos (by omega)]
  · simp only [if_neg c0]
    exact Ev.now _
/-- the error of steps whose nodes are not found -/
def nErr (ns : List S100) : List S64 → Int
  | [] => 0
  | x :: l => if findN x.f0.f0 ns 0 < 0 then 8 else if x.f3 = true ∧ findN x.f4.f0 ns 0 < 0 then 8 else nErr ns l
def tcErr (s : ByteArray) (xs : List S64) (ns : List S100) : Int := if wrErr s xs = 0 then nErr ns xs else wrErr s xs
theorem wrErr_len {s : ByteArray} {xs : List S64} (h : wrErr s xs = 0) : 1 ≤ xs.length ∧ xs.length ≤ 32 ∧ (∀ x ∈ xs, wsErr x = 0) ∧ tsum xs ≤ 32 := by
  unfold wrErr at h
  by_cases c0 : nameB s = true
  · rw [if_pos c0] at h
    by_cases c1 : (xs.length : Int) = 0
    · rw [if_pos c1] at h; omega
    · rw [if_neg c1] at h
      by_cases c2 : (xs.length : Int) > 32
      · rw [if_pos c2] at h; omega
      · rw [if_neg c2] at h
        by_cases c3 : tsum xs > 32
        · exfalso
          rw [if_pos c3] at h
          clear c0 c1 c2 c3
          induction xs with
          | nil => simp [wsAll] at h
          | cons x l ih =>
            simp only [wsAll] at h
            by_cases c : wsErr x = 0
            · rw [if_pos c] at h; exact ih h
            · rw [if_neg c] at h; exact c h
        · rw [if_neg c3] at h
          exact ⟨by omega, by omega, wsAll_pos h, by omega⟩
  · rw [if_neg c0] at h; omega
theorem tcheck_ev (s : ByteArray) (xs : List S64) (D : List S139) (ns : List S100) : Ev (fun k => trig_Check.f k s xs D ns) (tcErr s xs ns) := by
  unfold trig_Check.f tcErr
  refine (wrong_ev s xs).bind ?_
  by_cases c : wrErr s xs = 0
  · simp only [if_pos c]
    obtain ⟨h1, h2, _, _⟩ := wrErr_len c
    have := ev_drop xs (fun k i => trig_Check.l0 k xs (xs.length : Int) i D ns) (fun l _ => nErr ns l) ?_ ?_ xs.length 0 (by omega)
    · simpa using this
    · refine Ev.le 1 fun k => ?_
      simp only [trig_Check.l0, nErr]
      rw [if_neg (by omega)]
    · intro i hi ih
      have e2 : wrap64 ((i : Int) + 1) = ((i + 1 : Nat) : Int) := by rw [wr_in (by omega)]; omega
      simp only [nErr]
      refine Ev.step (f := fun k => if findN xs[i].f0.f0 ns 0 < 0 then some 8 else if xs[i].f3 = true then (if findN xs[i].f4.f0 ns 0 < 0 then some 8 else trig_Check.l0 k xs (xs.length : Int) ((i + 1 : Nat) : Int) D ns) else trig_Check.l0 k xs (xs.length : Int) ((i + 1 : Nat) : Int) D ns) (fun k => ?_) ?_
      · simp only [trig_Check.l0, rd64 xs i hi, e2, stackdef_Find.f, Option.bind_some]
        rw [if_pos (by omega), if_pos (by omega), if_pos (by omega)]
      · by_cases c1 : findN xs[i].f0.f0 ns 0 < 0
        · simp only [if_pos c1]; exact Ev.now _
        · simp only [if_neg c1]
          by_cases c2 : xs[i].f3 = true
          · by_cases c3 : findN xs[i].f4.f0 ns 0 < 0
            · simp only [if_pos c2, if_pos c3, if_pos (And.intro c2 c3)]; exact Ev.now _
            · simp only [if_pos c2, if_neg c3, if_neg (fun h : xs[i].f3 = true ∧ findN xs[i].f4.f0 ns 0 < 0 => c3 h.2)]; exact ih
          · simp only [if_neg c2, if_neg (fun h : xs[i].f3 = true ∧ findN xs[i].f4.f0 ns 0 < 0 => c2 h.1)]; exact ih
  · simp only [if_neg c]
    exact Ev.now _
end Go.Proofs.Ytgdjiphljadlcaa.H
