/- The law on comparisons returns true; plain law over the printed functions, no condition. -/
import Derived.Test.YtgdjiphljadlcaaHQa
import Derived.Test.YtgdjiphljadlcaaH40
namespace Go.Proofs.Ytgdjiphljadlcaa.H
open Go.RowKit Go.Proofs.YtgdjiphljadlcaaW.PrintWords Go.Proofs.YtgdjiphljadlcaaW.PrintLast Go.Proofs.YtgdjiphljadlcaaW.PrintMore
set_option linter.unusedSimpArgs false
theorem awake_true : signalbenchlaw44_awake.f = some true := rfl
/-- the numbers of a comparison are in range -/
def FldOk (fl v : Int) : Prop := 1 ≤ fl ∧ fl ≤ 6 ∧ -9007199254740992 ≤ v ∧ v ≤ 9007199254740992
instance (fl v : Int) : Decidable (FldOk fl v) := by unfold FldOk; infer_instance
theorem holdB_op (n kd fl op v on : Int) (ek fr tt va au : Int) (da : ByteArray) (fa : Int) (h1 : 1 ≤ op) (h2 : op ≤ 5) :
    holdB n kd fl op v on ek fr tt va au da fa = (holdB n kd 0 0 0 on ek fr tt va au da fa && decide (FldOk fl v) && cmpB op (fldN fr tt va au da fa fl) v) := by
  have hc : cmpB 0 (fldN fr tt va au da fa 0) 0 = true := by simp [cmpB]
  have hd : decide (cErr n kd fl op v = 0) = (decide (cErr n kd 0 0 0 = 0) && decide (FldOk fl v)) := by
    rw [← Bool.decide_and]
    refine decide_eq_decide.2 ?_
    unfold cErr fErr FldOk
    omega
  unfold holdB
  rw [hc, hd]
  cases decide (cErr n kd 0 0 0 = 0) <;> cases decide (FldOk fl v) <;> cases evOk ek fr tt va au da fa <;> cases decide (0 ≤ n ∧ n = on ∧ (kd = 0 ∨ kd = ek)) <;> simp
def b2i (b : Bool) : Int := if b = true then 1 else 0
section
variable (n kd fl op v on oa : Int) (ek fr tt va au : Int) (da : ByteArray) (fa : Int)
/-- what the end of Compares comes to -/
def cmpFin (n kd fl v on : Int) (ek fr tt va au : Int) (da : ByteArray) (fa : Int) (m : Int) : Bool :=
  if holdB n kd 0 0 0 on ek fr tt va au da fa && decide (FldOk fl v) then
    decide (m = 1) && (holdB n kd fl 1 v on ek fr tt va au da fa != holdB n kd fl 2 v on ek fr tt va au da fa)
  else decide (m = 0) && !holdB n kd fl 1 v on ek fr tt va au da fa && !holdB n kd fl 2 v on ek fr tt va au da fa
theorem cmp_j1 (m : Int) (e o b : Bool) (r : Bool) (hr : r = if b = true then (decide (m = 0) && !e && !o) else (decide (m = 1) && (e != o))) : Ev (fun k => signalbenchlaw44_TrigautoCompares.j1 k m e o b) r := by
  subst hr
  refine Ev.le 1 fun k => ?_
  simp only [signalbenchlaw44_TrigautoCompares.j1, awake_true, Option.bind_some]
  cases b
  · simp only [Bool.false_eq_true, if_false]
    by_cases c : m = 1
    · rw [if_pos c, decide_eq_true c]
      cases e <;> cases o <;> rfl
    · rw [if_neg c, decide_eq_false c]
      rfl
  · simp only [if_true]
    by_cases c : m = 0
    · rw [if_pos c, decide_eq_true c]
      cases e <;> cases o <;> rfl
    · rw [if_neg c, decide_eq_false c]
      rfl
theorem cmp5 (m : Int) (op : Int) : Ev (fun k => signalbenchlaw44_TrigautoCompares.l0 k m 5 n kd fl op v on oa ek fr tt va au da fa n kd 0 0 0 n kd fl 4 v) (cmpFin n kd fl v on ek fr tt va au da fa m) := by
  refine Ev.step (f := fun k => (trigauto_Holds.f k n kd fl 1 v on oa ek fr tt va au da fa).bind fun e => (trigauto_Holds.f k n kd fl 2 v on oa ek fr tt va au da fa).bind fun o => (trigauto_Holds.f k n kd 0 0 0 on oa ek fr tt va au da fa).bind fun p => if p = true then (if fl < 1 then signalbenchlaw44_TrigautoCompares.j1 k m e o true else if fl > 6 then signalbenchlaw44_TrigautoCompares.j1 k m e o true else if v < -9007199254740992 then signalbenchlaw44_TrigautoCompares.j1 k m e o true else signalbenchlaw44_TrigautoCompares.j1 k m e o (decide (v > 9007199254740992))) else signalbenchlaw44_TrigautoCompares.j1 k m e o true) (fun k => ?_) ?_
  · simp only [signalbenchlaw44_TrigautoCompares.l0]
    rw [if_neg (by omega)]
  · refine (holds_ev n kd fl 1 v on oa ek fr tt va au da fa).bind ?_
    refine (holds_ev n kd fl 2 v on oa ek fr tt va au da fa).bind ?_
    refine (holds_ev n kd 0 0 0 on oa ek fr tt va au da fa).bind ?_
    unfold cmpFin
    by_cases hp : holdB n kd 0 0 0 on ek fr tt va au da fa = true
    · simp only [hp, if_true, Bool.true_and]
      by_cases c1 : fl < 1
      · simp only [if_pos c1]
        refine cmp_j1 _ _ _ _ _ ?_
        rw [decide_eq_false (show ¬ FldOk fl v by unfold FldOk; omega)]
        rfl
      · simp only [if_neg c1]
        by_cases c2 : fl > 6
        · simp only [if_pos c2]
          refine cmp_j1 _ _ _ _ _ ?_
          rw [decide_eq_false (show ¬ FldOk fl v by unfold FldOk; omega)]
          rfl
        · simp only [if_neg c2]
          by_cases c3 : v < -9007199254740992
          · simp only [if_pos c3]
            refine cmp_j1 _ _ _ _ _ ?_
            rw [decide_eq_false (show ¬ FldOk fl v by unfold FldOk; omega)]
            rfl
          · simp only [if_neg c3]
            by_cases c4 : v > 9007199254740992
            · refine cmp_j1 _ _ _ _ _ ?_
              rw [decide_eq_true c4, decide_eq_false (show ¬ FldOk fl v by unfold FldOk; omega)]
              rfl
            · refine cmp_j1 _ _ _ _ _ ?_
              rw [decide_eq_false c4, decide_eq_true (show FldOk fl v by unfold FldOk; omega)]
              rfl
    · have hp' : holdB n kd 0 0 0 on ek fr tt va au da fa = false := by simpa using hp
      simp only [hp', Bool.false_eq_true, if_false, Bool.false_and]
      exact cmp_j1 _ _ _ _ _ rfl
/-- one round of the loop that asks -/
theorem cmp_round (m x op oq : Int) (h : x ≤ 4) (h2 : x ≠ 2) (hm : 0 ≤ m ∧ m ≤ 10) (hx : 0 ≤ x) (r : Int → Bool) (next : ∀ m', 0 ≤ m' ∧ m' ≤ 11 → Ev (fun k => signalbenchlaw44_TrigautoCompares.l0 k m' (x + 1) n kd fl op v on oa ek fr tt va au da fa n kd 0 0 0 n kd fl x v) (r m')) :
    Ev (fun k => signalbenchlaw44_TrigautoCompares.l0 k m x n kd fl op v on oa ek fr tt va au da fa n kd 0 0 0 n kd fl oq v) (r (m + b2i (holdB n kd fl x v on ek fr tt va au da fa))) := by
  have e1 : wrap64 (x + 1) = x + 1 := wr_in (by omega)
  have e2 : wrap64 (m + 1) = m + 1 := wr_in (by omega)
  refine Ev.step (f := fun k => (trigauto_Holds.f k n kd fl x v on oa ek fr tt va au da fa).bind fun t => if t = true then signalbenchlaw44_TrigautoCompares.l0 k (m + 1) (x + 1) n kd fl op v on oa ek fr tt va au da fa n kd 0 0 0 n kd fl x v else signalbenchlaw44_TrigautoCompares.l0 k m (x + 1) n kd fl op v on oa ek fr tt va au da fa n kd 0 0 0 n kd fl x v) (fun k => ?_) ?_
  · simp only [signalbenchlaw44_TrigautoCompares.l0, e1, e2]
    rw [if_pos h, if_neg h2]
  · refine (holds_ev n kd fl x v on oa ek fr tt va au da fa).bind ?_
    cases holdB n kd fl x v on ek fr tt va au da fa
    · simp only [Bool.false_eq_true, if_false]
      have e : m + b2i false = m := by simp [b2i]
      rw [e]
      exact next m (by omega)
    · simp only [if_true]
      have e : m + b2i true = m + 1 := by simp [b2i]
      rw [e]
      exact next (m + 1) (by omega)
theorem compares_pure : ∃ k, signalbenchlaw44_TrigautoCompares.f k n kd fl op v on oa ek fr tt va au da fa = some true := by
  refine Ev.rounds ?_
  unfold signalbenchlaw44_TrigautoCompares.f
  have h4 : ∀ m oq, 0 ≤ m ∧ m ≤ 10 → Ev (fun k => signalbenchlaw44_TrigautoCompares.l0 k m 4 n kd fl op v on oa ek fr tt va au da fa n kd 0 0 0 n kd fl oq v) (cmpFin n kd fl v on ek fr tt va au da fa (m + b2i (holdB n kd fl 4 v on ek fr tt va au da fa))) := fun m oq hm =>
    cmp_round n kd fl v on oa ek fr tt va au da fa m 4 op oq (by omega) (by omega) hm (by omega) (fun m => cmpFin n kd fl v on ek fr tt va au da fa m) (fun m' _ => cmp5 n kd fl v on oa ek fr tt va au da fa m' op)
  have h3 : ∀ m oq, 0 ≤ m ∧ m ≤ 9 → Ev (fun k => signalbenchlaw44_TrigautoCompares.l0 k m 3 n kd fl op v on oa ek fr tt va au da fa n kd 0 0 0 n kd fl oq v) (cmpFin n kd fl v on ek fr tt va au da fa ((m + b2i (holdB n kd fl 3 v on ek fr tt va au da fa)) + b2i (holdB n kd fl 4 v on ek fr tt va au da fa))) := fun m oq hm => by
    have e1 : wrap64 ((3 : Int) + 1) = 4 := wr_in (by omega)
    refine Ev.step (f := fun k => (trigauto_Holds.f k n kd fl 3 v on oa ek fr tt va au da fa).bind fun t => if t = true then signalbenchlaw44_TrigautoCompares.l0 k (wrap64 (m + 1)) 4 n kd fl op v on oa ek fr tt va au da fa n kd 0 0 0 n kd fl 3 v else signalbenchlaw44_TrigautoCompares.l0 k m 4 n kd fl op v on oa ek fr tt va au da fa n kd 0 0 0 n kd fl 3 v) (fun k => ?_) ?_
    · simp only [signalbenchlaw44_TrigautoCompares.l0, e1]
      rw [if_pos (by omega), if_neg (by omega)]
    · refine (holds_ev n kd fl 3 v on oa ek fr tt va au da fa).bind ?_
      cases holdB n kd fl 3 v on ek fr tt va au da fa
      · simp only [Bool.false_eq_true, if_false]
        have e : m + b2i false = m := by simp [b2i]
        rw [e]
        exact h4 m 3 (by omega)
      · simp only [if_true]
        have e : m + b2i true = m + 1 := by simp [b2i]
        rw [e, wr_in (by omega)]
        exact h4 (m + 1) 3 (by omega)
  have h2 : ∀ m oq, 0 ≤ m ∧ m ≤ 9 → Ev (fun k => signalbenchlaw44_TrigautoCompares.l0 k m 2 n kd fl op v on oa ek fr tt va au da fa n kd 0 0 0 n kd fl oq v) (cmpFin n kd fl v on ek fr tt va au da fa ((m + b2i (holdB n kd fl 3 v on ek fr tt va au da fa)) + b2i (holdB n kd fl 4 v on ek fr tt va au da fa))) := fun m oq hm => by
    have e1 : wrap64 ((2 : Int) + 1) = 3 := wr_in (by omega)
    refine Ev.step (fun k => ?_) (h3 m 2 hm)
    simp only [signalbenchlaw44_TrigautoCompares.l0, e1]
    rw [if_pos (by omega), if_pos trivial]
  have e1 : wrap64 ((1 : Int) + 1) = 2 := wr_in (by omega)
  have e0 : wrap64 ((0 : Int) + 1) = 1 := wr_in (by omega)
  have hend : cmpFin n kd fl v on ek fr tt va au da fa ((b2i (holdB n kd fl 1 v on ek fr tt va au da fa) + b2i (holdB n kd fl 3 v on ek fr tt va au da fa)) + b2i (holdB n kd fl 4 v on ek fr tt va au da fa)) = true := by
    unfold cmpFin
    rw [holdB_op n kd fl 1 v on ek fr tt va au da fa (by omega) (by omega), holdB_op n kd fl 2 v on ek fr tt va au da fa (by omega) (by omega), holdB_op n kd fl 3 v on ek fr tt va au da fa (by omega) (by omega), holdB_op n kd fl 4 v on ek fr tt va au da fa (by omega) (by omega)]
    cases holdB n kd 0 0 0 on ek fr tt va au da fa && decide (FldOk fl v)
    · simp [b2i]
    · generalize fldN fr tt va au da fa fl = x
      rcases Int.lt_trichotomy x v with h | h | h
      · have a1 : (x == v) = false := by simp; omega
        have a3 : decide (x < v) = true := decide_eq_true h
        have a4 : decide (x > v) = false := decide_eq_false (by omega)
        simp [b2i, cmpB, bne, a1, a3, a4]
      · subst h
        simp [b2i, cmpB]
      · have a1 : (x == v) = false := by simp; omega
        have a3 : decide (x < v) = false := decide_eq_false (by omega)
        have a4 : decide (x > v) = true := decide_eq_true h
        simp [b2i, cmpB, bne, a1, a3, a4]
  rw [← hend]
  refine Ev.step (f := fun k => (trigauto_Holds.f k n kd fl 1 v on oa ek fr tt va au da fa).bind fun t => if t = true then signalbenchlaw44_TrigautoCompares.l0 k 1 2 n kd fl op v on oa ek fr tt va au da fa n kd 0 0 0 n kd fl 1 v else signalbenchlaw44_TrigautoCompares.l0 k 0 2 n kd fl op v on oa ek fr tt va au da fa n kd 0 0 0 n kd fl 1 v) (fun k => ?_) ?_
  · simp only [signalbenchlaw44_TrigautoCompares.l0, e1, e0]
    rw [if_pos (by omega), if_neg (by omega)]
  · refine (holds_ev n kd fl 1 v on oa ek fr tt va au da fa).bind ?_
    cases holdB n kd fl 1 v on ek fr tt va au da fa
    · simp only [Bool.false_eq_true, if_false]
      have e : b2i false = 0 := by simp [b2i]
      rw [e]
      exact h2 0 1 (by omega)
    · simp only [if_true]
      have e : b2i true = 1 := by simp [b2i]
      rw [e]
      exact h2 1 1 (by omega)
end
end Go.Proofs.Ytgdjiphljadlcaa.H
