/- A part of the plain laws of the search (layer 47); no condition. -/
import Derived.Test.YtgdjiphljadlcaaKQc
import Derived.Test.YtgdjiphljadlcaaKQf
import Derived.Test.YtgdjiphljadlcaaKQh
import Derived.Test.YtgdjiphljadlcaaKAll
import Derived.Test.YtgdjiphljadlcaaK0
import Derived.Test.YtgdjiphljadlcaaK11
import Derived.Test.YtgdjiphljadlcaaK15
import Derived.Test.YtgdjiphljadlcaaK35
namespace Go.Proofs.Ytgdjiphljadlcaa.K
open Go.RowKit Go.Proofs.YtgdjiphljadlcaaW.PrintWords Go.Proofs.YtgdjiphljadlcaaW.PrintLast Go.Proofs.YtgdjiphljadlcaaW.PrintMore
set_option linter.unusedSimpArgs false
theorem prefixes_l0 (n : Nat) (xs some_ : List Int) (hx : xs.length ≤ 1000000) (hs : some_ = xs.filter fun p => decide (p < (n : Int))) : ∀ d i, i + d = xs.length →
    Ev (fun k => signalbenchlaw47_SearchPrefixes.l0 k n xs some_ ((xs.take i).filter fun p => decide (p < (n : Int))) i) true := by
  intro d
  induction d with
  | zero =>
    intro i hi
    obtain rfl : i = xs.length := by omega
    have hsl : some_.length ≤ 1000000 := by
      rw [hs]
      exact Nat.le_trans (List.length_filter_le _ _) hx
    refine Ev.step (f := fun k => (signalbenchlaw47_ints.f k some_ some_).bind fun t => if t = true then (signalbenchlaw47_awake.f).bind fun t => (some t) else some false) (fun k => ?_) ?_
    · simp only [signalbenchlaw47_SearchPrefixes.l0]
      rw [if_neg (by omega), List.take_length, ← hs]
    · refine (ints_ev some_ hsl).bind ?_
      simp only [if_true]
      exact awake_ev
  | succ d ih =>
    intro i hi
    have hlt : i < xs.length := by omega
    have ih' := ih (i + 1) (by omega)
    rw [List.take_succ_eq_append_getElem hlt, List.filter_append] at ih'
    have hlen : ((xs.take i).filter fun p => decide (p < (n : Int))).length ≤ 1000000 := Nat.le_trans (List.length_filter_le _ _) (by rw [List.length_take]; omega)
    refine Ev.step (fun k => ?_) ih'
    simp only [signalbenchlaw47_SearchPrefixes.l0, wr_nat (show i ≤ 1000000 by omega), rd_get xs i hlt]
    rw [if_pos (by omega), if_pos (by omega)]
    by_cases c : xs[i] < (n : Int)
    · have ef : [xs[i]].filter (fun p => decide (p < (n : Int))) = [xs[i]] := by simp [c]
      rw [if_pos c, if_pos (by omega), ef]
    · have ef : [xs[i]].filter (fun p => decide (p < (n : Int))) = [] := by simp; omega
      rw [if_neg c, ef, List.append_nil]
theorem prefixes_pure (A : List S50) (l : List S46) (x : Int) : ∃ k, signalbenchlaw47_SearchPrefixes.f k A l x = some true := by
  refine Ev.rounds (g := fun k => signalbenchlaw47_SearchPrefixes.f k A l x) ?_
  have no : Ev (fun k => signalbenchlaw47_SearchPrefixes.j0 k l x true A) true := by
    refine Ev.step (f := fun _ => (signalbenchlaw47_awake.f).bind fun t => (some t)) (fun k => ?_) awake_ev
    simp only [signalbenchlaw47_SearchPrefixes.j0, if_true]
  unfold signalbenchlaw47_SearchPrefixes.f
  by_cases c1 : (l.length : Int) > 200
  · simp only [if_pos c1]
    exact no
  simp only [if_neg c1]
  by_cases c2 : x < 0
  · simp only [if_pos c2]
    exact no
  simp only [if_neg c2]
  by_cases c3 : x > (l.length : Int)
  · rw [decide_eq_true c3]
    exact no
  rw [decide_eq_false c3]
  obtain ⟨n, rfl⟩ : ∃ n : Nat, x = (n : Int) := ⟨x.toNat, by omega⟩
  have hl : l.length ≤ 1000000 := by omega
  refine Ev.step (f := fun k => (search_All.f k A l).bind fun t => (search_All.f k A (l.take n)).bind fun t2 => signalbenchlaw47_SearchPrefixes.l0 k n t t2 ([] : List Int) 0) (fun k => ?_) ?_
  · simp only [signalbenchlaw47_SearchPrefixes.j0, Bool.false_eq_true, if_false, if_pos (show (0 : Int) ≤ (n : Int) by omega), if_pos (show (n : Int) ≤ (l.length : Int) by omega), Int.toNat_natCast]
  · refine (all_ev A l hl).bind ?_
    refine (all_ev A (l.take n) (by rw [List.length_take]; omega)).bind ?_
    exact prefixes_l0 n (finB A l) _ (Nat.le_trans (fin_len A l) hl) (fin_take A l n (by omega)) (finB A l).length 0 (by omega)
end Go.Proofs.Ytgdjiphljadlcaa.K
