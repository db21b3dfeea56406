/- A part of the plain laws of the search (layer 47); no condition. -/
import Derived.Test.YtgdjiphljadlcaaKQa
import Derived.Test.YtgdjiphljadlcaaKQb
import Derived.Test.YtgdjiphljadlcaaKQc
import Derived.Test.YtgdjiphljadlcaaKQd
import Derived.Test.YtgdjiphljadlcaaKQe
import Derived.Test.YtgdjiphljadlcaaKAll
import Derived.Test.YtgdjiphljadlcaaKNext
import Derived.Test.YtgdjiphljadlcaaKEnds
import Derived.Test.YtgdjiphljadlcaaK0
import Derived.Test.YtgdjiphljadlcaaK11
namespace Go.Proofs.Ytgdjiphljadlcaa.K
open Go.RowKit Go.Proofs.YtgdjiphljadlcaaW.PrintWords Go.Proofs.YtgdjiphljadlcaaW.PrintLast Go.Proofs.YtgdjiphljadlcaaW.PrintMore
set_option linter.unusedSimpArgs false
theorem wr_down (n : Nat) (h : n ≤ 1000000) : wrap64 (((n + 1 : Nat) : Int) - 1 - 1) = (n : Int) - 1 := by rw [wr_in (by omega)]; omega
/-- what the specification's search has at step j and place p -/
def hE (A : List S50) (l : List S46) (j p : Nat) (i : Nat) : List Bool := if i = j then part l.length (gN A l j) p else if i < j then tab l.length (gN A l i) else []
theorem hE_set (A : List S50) (l : List S46) (m j p : Nat) (v : List Bool) (hv : v = part l.length (gN A l j) (p + 1)) : (tab m (hE A l j p)).set j v = tab m (hE A l j (p + 1)) := by
  refine tab_set _ _ _ _ _ fun i _ => ?_
  unfold hE
  by_cases c : i = j
  · rw [if_pos c, if_pos c, hv]
  · rw [if_neg c, if_neg c, if_neg c]
/-- the places at which a match ends -/
def finB (A : List S50) (l : List S46) : List Int := if chkErr A = 0 then idxT (tab l.length (gN A l (A.length - 1))) 0 else []
theorem rowsB_len (A : List S50) (l : List S46) (m : Nat) : (rowsB A l m).length = m := tab_len _ _
theorem last_rows (A : List S50) (l : List S46) (h : 1 ≤ A.length) : lastRow (rowsB A l A.length) = tab l.length (gN A l (A.length - 1)) := by
  unfold lastRow
  rw [rowsB_len]
  exact tab_getD _ _ _ _ (by omega)
theorem fin_is (A : List S50) (l : List S46) : idxT (lastRow (layB A l)) 0 = finB A l := by
  unfold layB finB
  by_cases c : chkErr A = 0
  · rw [if_pos c, if_pos c, last_rows A l (chk_len c).1]
  · rw [if_neg c, if_neg c]
    rfl
theorem fin_len (A : List S50) (l : List S46) : (finB A l).length ≤ l.length := by
  unfold finB
  split
  · have := idxT_len (tab l.length (gN A l (A.length - 1))) 0
    rwa [tab_len] at this
  · exact Nat.zero_le _
theorem last_len (A : List S50) (l : List S46) : (lastRow (layB A l)).length ≤ l.length := by
  unfold layB
  by_cases c : chkErr A = 0
  · rw [if_pos c, last_rows A l (chk_len c).1, tab_len]
    exact Nat.le_refl _
  · rw [if_neg c]
    exact Nat.zero_le _
theorem all_ev (A : List S50) (l : List S46) (hl : l.length ≤ 1000000) : Ev (fun k => search_All.f k A l) (finB A l) := by
  unfold search_All.f
  refine (layers_ev A l hl).bind ?_
  have := last_len A l
  rw [if_pos (by omega), fin_is]
  exact Ev.now _
theorem next_ev (A : List S50) (l : List S46) (hl : l.length ≤ 1000000) (x : Int) : Ev (fun k => search_Next.f k A l x) (firstFrom x (finB A l)) := by
  unfold search_Next.f
  refine (layers_ev A l hl).bind ?_
  rw [fin_is]
  exact Ev.now _
theorem idxT_snoc' (row : List Bool) (p : Nat) (h : p < row.length) : idxT (row.take (p + 1)) 0 = idxT (row.take p) 0 ++ (if row.getD p false = true then [(p : Int)] else []) := by
  have hte : row.take (p + 1) = row.take p ++ [row.getD p false] := by
    rw [List.take_succ_eq_append_getElem h, List.getD_eq_getElem?_getD, List.getElem?_eq_getElem h, Option.getD_some]
  rw [hte, idxT_snoc, List.length_take, Nat.min_eq_left (by omega), Nat.zero_add]
theorem rd_get (xs : List Int) (i : Nat) (h : i < xs.length) : rd xs (i : Int) = xs[i] := by
  unfold rd
  rw [Int.toNat_natCast, List.getD_eq_getElem?_getD, List.getElem?_eq_getElem h, Option.getD_some]
theorem ints_ev (xs : List Int) (hx : xs.length ≤ 1000000) : Ev (fun k => signalbenchlaw47_ints.f k xs xs) true := by
  unfold signalbenchlaw47_ints.f
  simp only [if_true]
  have := ev_drop xs (fun k i => signalbenchlaw47_ints.l0 k xs xs i) (fun _ _ => true) ?_ ?_ xs.length 0 (by omega)
  · simpa using this
  · refine Ev.le 1 fun k => ?_
    simp only [signalbenchlaw47_ints.l0]
    rw [if_neg (by omega)]
  · intro i hi ih
    refine Ev.step (fun k => ?_) ih
    simp only [signalbenchlaw47_ints.l0, wr_nat (show i ≤ 1000000 by omega)]
    rw [if_pos (by omega), if_pos (by omega), if_pos (by omega), if_pos trivial]
end Go.Proofs.Ytgdjiphljadlcaa.K
