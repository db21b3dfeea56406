/- A part of the plain laws of the search (layer 47); no condition. -/
import Derived.Test.YtgdjiphljadlcaaKQa
import Derived.Test.YtgdjiphljadlcaaK0
import Derived.Test.YtgdjiphljadlcaaK16
import Derived.Test.YtgdjiphljadlcaaK19
import Derived.Test.YtgdjiphljadlcaaK20
import Derived.Test.YtgdjiphljadlcaaK21
namespace Go.Proofs.Ytgdjiphljadlcaa.K
open Go.RowKit Go.Proofs.YtgdjiphljadlcaaW.PrintWords Go.Proofs.YtgdjiphljadlcaaW.PrintLast Go.Proofs.YtgdjiphljadlcaaW.PrintMore
set_option linter.unusedSimpArgs false
theorem rcond_ev (n kd fl op v : Int) : Ev (fun k => signalbenchref44_wrong.f k n kd fl op v) (cErr n kd fl op v) := by
  refine Ev.le 3 fun k => ?_
  simp only [signalbenchref44_wrong.f, signalbenchref44_wrong.j0, signalbenchref44_wrong.j1, signalbenchref44_wrong.j2, cErr, fErr, decide_eq_true_eq, bne_iff_ne, ne_eq, if_true, Bool.false_eq_true, if_false, ite_some]
  congr 1
  omega
theorem rvalid (kd fr tt va au : Int) (da : ByteArray) (fa : Int) : signalbenchref07_Valid.f kd fr tt va au da fa = some (evOk kd fr tt va au da fa) := by
  by_cases h : EvOk kd fr tt va au da fa
  · have e : evOk kd fr tt va au da fa = true := decide_eq_true h
    rw [e]
    unfold EvOk at h
    simp only [signalbenchref07_Valid.f]
    rw [if_neg (by omega), if_neg (by omega), if_neg (by omega), if_neg (by omega), if_neg (by omega), if_neg (by omega), if_neg (by omega), if_neg (by omega), if_pos (by omega), if_pos (by omega), if_pos (by omega)]
    congr 1
    exact decide_eq_true (by omega)
  · have e : evOk kd fr tt va au da fa = false := decide_eq_false h
    rw [e]
    unfold EvOk at h
    simp only [signalbenchref07_Valid.f]
    by_cases c1 : kd < 1
    · rw [if_pos c1]
    rw [if_neg c1]
    by_cases c2 : kd > 8
    · rw [if_pos c2]
    rw [if_neg c2]
    by_cases c3 : fr < 0
    · rw [if_pos c3]
    rw [if_neg c3]
    by_cases c4 : fr > tt
    · rw [if_pos c4]
    rw [if_neg c4]
    by_cases c5 : tt > 1099511627776
    · rw [if_pos c5]
    rw [if_neg c5]
    by_cases c6 : (da.size : Int) > 4096
    · rw [if_pos c6]
    rw [if_neg c6]
    by_cases c7 : fa < 0
    · rw [if_pos c7]
    rw [if_neg c7]
    by_cases c8 : fa > 12
    · rw [if_pos c8]
    rw [if_neg c8]
    by_cases c9 : va ≥ -9007199254740992
    · rw [if_pos c9]
      by_cases c10 : va ≤ 9007199254740992
      · rw [if_pos c10]
        by_cases c11 : au ≥ -9007199254740992
        · rw [if_pos c11]
          congr 1
          exact decide_eq_false (by omega)
        · rw [if_neg c11]
      · rw [if_neg c10]
    · rw [if_neg c9]
theorem rfield_eq (kd fr tt va au : Int) (da : ByteArray) (fa n : Int) : signalbenchref44_field.f n kd fr tt va au da fa = some (fldN fr tt va au da fa n) := by
  simp only [signalbenchref44_field.f, fldN]
  by_cases c : (da.size : Int) = 0
  · simp only [c, if_true, ite_some]
  · simp only [if_neg c, if_pos (show 0 < (da.size : Int) by omega), ite_some]
theorem compares_eq (op n v : Int) : signalbenchref44_compares.f op n v = some (cmpB op n v) := by
  simp only [signalbenchref44_compares.f, cmpB, ite_some]
theorem rholds_tail (n kd fl op v on oa : Int) (ek fr tt va au : Int) (da : ByteArray) (fa : Int) (b : Bool) :
    Ev (fun k => signalbenchref44_Holds.j0 k b n kd fl op v on oa ek fr tt va au da fa) (!b && decide (kd = 0 ∨ kd = ek) && cmpB op (fldN fr tt va au da fa fl) v) := by
  refine Ev.le 2 fun k => ?_
  simp only [signalbenchref44_Holds.j0, signalbenchref44_Holds.j1, rfield_eq, compares_eq, Option.bind_some]
  cases b
  · simp only [Bool.false_eq_true, if_false, Bool.not_false, Bool.true_and]
    by_cases c5 : kd = 0
    · rw [if_pos c5, decide_eq_true (Or.inl c5), Bool.true_and]
    · rw [if_neg c5]
      by_cases c6 : kd = ek
      · have e : ¬ ((kd != ek) = true) := by simp [c6]
        rw [if_neg e, decide_eq_true (Or.inr c6), Bool.true_and]
      · have e : (kd != ek) = true := by simp [c6]
        rw [if_pos e, decide_eq_false (by omega), Bool.false_and]
  · simp only [if_true, Bool.not_true, Bool.false_and]
theorem rholds_ev (n kd fl op v on oa : Int) (ek fr tt va au : Int) (da : ByteArray) (fa : Int) :
    Ev (fun k => signalbenchref44_Holds.f k n kd fl op v on oa ek fr tt va au da fa) (holdB n kd fl op v on ek fr tt va au da fa) := by
  unfold signalbenchref44_Holds.f
  refine (rcond_ev n kd fl op v).bind ?_
  unfold holdB
  by_cases c1 : cErr n kd fl op v = 0
  · simp only [c1, if_true, decide_true, Bool.true_and, rvalid, Option.bind_some]
    by_cases c2 : evOk ek fr tt va au da fa = true
    · simp only [c2, if_true, Bool.true_and]
      by_cases c3 : n < 0
      · simp only [c3, if_true]
        rw [decide_eq_false (by omega)]
        simpa using rholds_tail n kd fl op v on oa ek fr tt va au da fa true
      · simp only [if_neg c3]
        by_cases c4 : n = on
        · have e : (n != on) = false := by simp [c4]
          have e2 : decide (0 ≤ n ∧ n = on ∧ (kd = 0 ∨ kd = ek)) = decide (kd = 0 ∨ kd = ek) := decide_eq_decide.2 (by omega)
          rw [e, e2]
          simpa using rholds_tail n kd fl op v on oa ek fr tt va au da fa false
        · have e : (n != on) = true := by simp [c4]
          rw [e, decide_eq_false (by omega)]
          simpa using rholds_tail n kd fl op v on oa ek fr tt va au da fa true
    · have c2' : evOk ek fr tt va au da fa = false := by simpa using c2
      simp only [c2', Bool.false_eq_true, if_false, Bool.false_and]
      simpa using rholds_tail n kd fl op v on oa ek fr tt va au da fa true
  · simp only [if_neg c1, decide_eq_false c1, Bool.false_and]
    simpa using rholds_tail n kd fl op v on oa ek fr tt va au da fa true
end Go.Proofs.Ytgdjiphljadlcaa.K
