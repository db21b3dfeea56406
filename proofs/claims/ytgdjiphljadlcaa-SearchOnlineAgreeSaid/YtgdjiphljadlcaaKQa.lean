/- A part of the plain laws of the search (layer 47); no condition. -/
import Derived.Test.YtgdjiphljadlcaaK0
import Derived.Test.YtgdjiphljadlcaaK2
import Derived.Test.YtgdjiphljadlcaaK5
import Derived.Test.YtgdjiphljadlcaaK6
import Derived.Test.YtgdjiphljadlcaaK7
namespace Go.Proofs.Ytgdjiphljadlcaa.K
open Go.RowKit Go.Proofs.YtgdjiphljadlcaaW.PrintWords Go.Proofs.YtgdjiphljadlcaaW.PrintLast Go.Proofs.YtgdjiphljadlcaaW.PrintMore
set_option linter.unusedSimpArgs false
theorem Ev.le {α : Type} {g : Nat → Option α} {r : α} (n : Nat) (h : ∀ k, g (k + n) = some r) : Ev g r :=
  ⟨n, fun k hk => by
    obtain ⟨m, rfl⟩ : ∃ m, k = m + n := ⟨k - n, by omega⟩
    exact h m⟩
theorem wr_in {n : Int} (h : -9223372036854775808 ≤ n ∧ n ≤ 9223372036854775807) : wrap64 n = n := by unfold wrap64; omega
theorem ite_some {α : Type} (c : Prop) [Decidable c] (a b : α) : (if c then some a else some b) = some (if c then a else b) := by split <;> rfl
/-- the error of the numbers of a condition -/
def fErr (kd fl op v : Int) : Int :=
  if kd < 0 ∨ kd > 8 ∨ op < 0 ∨ op > 5 then 1
  else if op = 0 ∧ (fl ≠ 0 ∨ v ≠ 0) then 1
  else if op ≠ 0 ∧ (fl < 1 ∨ fl > 6) then 1
  else if v < -9007199254740992 ∨ v > 9007199254740992 then 2 else 0
def cErr (n kd fl op v : Int) : Int := if n < -1 then 2 else fErr kd fl op v
theorem cond_ev (n kd fl op v : Int) : Ev (fun k => trigauto_cond.f k n kd fl op v) (cErr n kd fl op v) := by
  refine Ev.le 3 fun k => ?_
  simp only [trigauto_cond.f, trigauto_cond.j0, trigauto_cond.j1, trigauto_cond.j2, cErr, fErr, decide_eq_true_eq, bne_iff_ne, ne_eq, if_true, Bool.false_eq_true, if_false, ite_some]
  congr 1
  omega
/-- is an event valid? -/
def EvOk (kd fr tt va au : Int) (da : ByteArray) (fa : Int) : Prop :=
  1 ≤ kd ∧ kd ≤ 8 ∧ 0 ≤ fr ∧ fr ≤ tt ∧ tt ≤ 1099511627776 ∧ -9007199254740992 ≤ va ∧ va ≤ 9007199254740992 ∧ -9007199254740992 ≤ au ∧ au ≤ 9007199254740992 ∧ (da.size : Int) ≤ 4096 ∧ 0 ≤ fa ∧ fa ≤ 12
instance (kd fr tt va au : Int) (da : ByteArray) (fa : Int) : Decidable (EvOk kd fr tt va au da fa) := by unfold EvOk; infer_instance
def evOk (kd fr tt va au : Int) (da : ByteArray) (fa : Int) : Bool := decide (EvOk kd fr tt va au da fa)
theorem valid_ev (kd fr tt va au : Int) (da : ByteArray) (fa : Int) : Ev (fun k => event_Valid.f k kd fr tt va au da fa) (evOk kd fr tt va au da fa) := by
  refine Ev.le 2 fun k => ?_
  by_cases h : EvOk kd fr tt va au da fa
  · have e : evOk kd fr tt va au da fa = true := decide_eq_true h
    rw [e]
    unfold EvOk at h
    simp only [event_Valid.f, event_Valid.j0, event_Valid.j1, decide_eq_true_eq, if_true, Bool.false_eq_true, if_false]
    rw [if_neg (by omega), if_neg (by omega), if_neg (by omega), if_neg (by omega), if_neg (by omega), if_neg (by omega), if_neg (by omega), if_neg (by omega), if_neg (by omega), if_pos (by omega), if_pos (by omega)]
    congr 1
    exact decide_eq_true (by omega)
  · have e : evOk kd fr tt va au da fa = false := decide_eq_false h
    rw [e]
    unfold EvOk at h
    simp only [event_Valid.f, event_Valid.j0, event_Valid.j1, decide_eq_true_eq, if_true, Bool.false_eq_true, if_false]
    by_cases c1 : kd < 1
    · rw [if_pos c1]
    rw [if_neg c1]
    by_cases c2 : kd > 8
    · rw [if_pos c2]
    rw [if_neg c2]
    by_cases c3 : fr < 0
    · rw [if_pos c3]
    rw [if_neg c3]
    by_cases c4 : fr > tt
    · rw [if_pos c4]
    rw [if_neg c4]
    by_cases c5 : tt > 1099511627776
    · rw [if_pos c5]
    rw [if_neg c5]
    by_cases c6 : va < -9007199254740992
    · rw [if_pos c6]
    rw [if_neg c6]
    by_cases c7 : va > 9007199254740992
    · rw [if_pos c7]
    rw [if_neg c7]
    by_cases c8 : au < -9007199254740992
    · rw [if_pos c8]
    rw [if_neg c8]
    by_cases c9 : au > 9007199254740992
    · rw [if_pos c9]
    rw [if_neg c9]
    by_cases c10 : (da.size : Int) ≤ 4096
    · rw [if_pos c10]
      by_cases c11 : fa ≥ 0
      · rw [if_pos c11]
        congr 1
        exact decide_eq_false (by omega)
      · rw [if_neg c11]
    · rw [if_neg c10]
theorem toList_len (s : ByteArray) : s.toList.length = s.size := by rw [ByteArray.toList_eq, data_length]
theorem toList_nil {s : ByteArray} : s.toList = [] ↔ (s.size : Int) = 0 := by
  rw [← toList_len]
  constructor
  · intro h
    rw [h]
    rfl
  · intro h
    exact List.eq_nil_of_length_eq_zero (by omega)
/-- the number of a field of an event -/
def fldN (fr tt va au : Int) (da : ByteArray) (fa : Int) (n : Int) : Int :=
  if n = 1 then va else if n = 2 then au else if n = 3 then fa else if n = 4 then (da.size : Int) else if n = 5 then wrap64 (tt - fr) else if (da.size : Int) = 0 then -1 else wrap64 (bt da 0)
theorem field_eq (kd fr tt va au : Int) (da : ByteArray) (fa n : Int) : trigauto_field.f kd fr tt va au da fa n = some (fldN fr tt va au da fa n) := by
  simp only [trigauto_field.f, fldN, toList_nil]
  by_cases c : (da.size : Int) = 0
  · simp only [c, if_true, ite_some]
  · simp only [if_neg c, if_pos (show 0 < (da.size : Int) by omega), ite_some]
/-- does a number compare with another one? -/
def cmpB (op n v : Int) : Bool :=
  if op = 1 then n == v else if op = 2 then n != v else if op = 3 then decide (n < v) else if op = 4 then decide (n > v) else if op = 5 then (Go.bits .and .i64 n v) == v else true
/-- does an out satisfy a compiled condition? -/
def holdB (n kd fl op v on : Int) (ek fr tt va au : Int) (da : ByteArray) (fa : Int) : Bool :=
  decide (cErr n kd fl op v = 0) && evOk ek fr tt va au da fa && decide (0 ≤ n ∧ n = on ∧ (kd = 0 ∨ kd = ek)) && cmpB op (fldN fr tt va au da fa fl) v
theorem Ev.some_ {α : Type} {r : α} {g : Nat → Option α} (h : ∀ k, g k = some r) : Ev g r := ⟨0, fun k _ => h k⟩
theorem holds_tail (n kd fl op v on oa : Int) (ek fr tt va au : Int) (da : ByteArray) (fa : Int) (b : Bool) :
    Ev (fun k => trigauto_Holds.j0 k b n kd fl op v on oa ek fr tt va au da fa) (!b && cmpB op (fldN fr tt va au da fa fl) v) := by
  refine Ev.le 1 fun k => ?_
  simp only [trigauto_Holds.j0, field_eq, Option.bind_some]
  cases b
  · simp only [Bool.false_eq_true, if_false, cmpB, ite_some, Bool.not_false, Bool.true_and]
  · simp only [if_true, Bool.not_true, Bool.false_and]
theorem holds_ev (n kd fl op v on oa : Int) (ek fr tt va au : Int) (da : ByteArray) (fa : Int) :
    Ev (fun k => trigauto_Holds.f k n kd fl op v on oa ek fr tt va au da fa) (holdB n kd fl op v on ek fr tt va au da fa) := by
  unfold trigauto_Holds.f
  refine (cond_ev n kd fl op v).bind ?_
  unfold holdB
  by_cases c1 : cErr n kd fl op v = 0
  · simp only [c1, if_true, decide_true, Bool.true_and]
    refine (valid_ev ek fr tt va au da fa).bind ?_
    by_cases c2 : evOk ek fr tt va au da fa = true
    · simp only [c2, if_true, Bool.true_and]
      by_cases c3 : n < 0
      · simp only [c3, if_true]
        rw [decide_eq_false (by omega)]
        simpa using holds_tail n kd fl op v on oa ek fr tt va au da fa true
      · simp only [if_neg c3]
        by_cases c4 : n = on
        · simp only [if_pos c4]
          by_cases c5 : kd = 0
          · simp only [if_pos c5]
            rw [decide_eq_true (by omega)]
            simpa using holds_tail n kd fl op v on oa ek fr tt va au da fa false
          · simp only [if_neg c5]
            by_cases c6 : kd = ek
            · have e : (kd != ek) = false := by simp [c6]
              rw [decide_eq_true (by omega), e]
              simpa using holds_tail n kd fl op v on oa ek fr tt va au da fa false
            · have e : (kd != ek) = true := by simp [c6]
              rw [decide_eq_false (by omega), e]
              simpa using holds_tail n kd fl op v on oa ek fr tt va au da fa true
        · simp only [if_neg c4]
          rw [decide_eq_false (by omega)]
          simpa using holds_tail n kd fl op v on oa ek fr tt va au da fa true
    · have c2' : evOk ek fr tt va au da fa = false := by simpa using c2
      simp only [c2', Bool.false_eq_true, if_false, Bool.false_and]
      simpa using holds_tail n kd fl op v on oa ek fr tt va au da fa true
  · simp only [if_neg c1, decide_eq_false c1, Bool.false_and]
    simpa using holds_tail n kd fl op v on oa ek fr tt va au da fa true
end Go.Proofs.Ytgdjiphljadlcaa.K
