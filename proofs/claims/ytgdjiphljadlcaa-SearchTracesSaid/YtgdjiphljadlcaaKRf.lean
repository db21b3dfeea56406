/- A part of the plain laws of the search (layer 47); no condition. -/
import Derived.Test.YtgdjiphljadlcaaKQa
import Derived.Test.YtgdjiphljadlcaaKQb
import Derived.Test.YtgdjiphljadlcaaKQc
import Derived.Test.YtgdjiphljadlcaaKQd
import Derived.Test.YtgdjiphljadlcaaKQe
import Derived.Test.YtgdjiphljadlcaaKQf
import Derived.Test.YtgdjiphljadlcaaKRb
import Derived.Test.YtgdjiphljadlcaaKRc
import Derived.Test.YtgdjiphljadlcaaKRAll
import Derived.Test.YtgdjiphljadlcaaKEnds
import Derived.Test.YtgdjiphljadlcaaK0
import Derived.Test.YtgdjiphljadlcaaK22
import Derived.Test.YtgdjiphljadlcaaK23
import Derived.Test.YtgdjiphljadlcaaK26
import Derived.Test.YtgdjiphljadlcaaK28
import Derived.Test.YtgdjiphljadlcaaK29
namespace Go.Proofs.Ytgdjiphljadlcaa.K
open Go.RowKit Go.Proofs.YtgdjiphljadlcaaW.PrintWords Go.Proofs.YtgdjiphljadlcaaW.PrintLast Go.Proofs.YtgdjiphljadlcaaW.PrintMore
set_option linter.unusedSimpArgs false
theorem before_ev (A : List S50) (j : Nat) (hj : j < A.length) (l : List S46) (hl : l.length ≤ 1000000) (g : Nat → Bool) (p : Nat) (hp : p < l.length) : ∀ n, n ≤ p →
    Ev (fun k => signalbenchref47_before.l0 k l (tab l.length g) j p ((n : Int) - 1) A) (prevQ A[j] l g p n) := by
  intro n
  induction n with
  | zero =>
    intro _
    refine Ev.le 1 fun k => ?_
    simp only [signalbenchref47_before.l0]
    rw [if_neg (by omega)]
    rfl
  | succ n ih =>
    intro hn
    have ih' := ih (by omega)
    have e : ((n + 1 : Nat) : Int) - 1 = (n : Int) := by omega
    have ew := wr_down n (by omega)
    rw [e] at ew ⊢
    rw [prevQ]
    by_cases c : g n = true
    · refine Ev.step (f := fun k => (signalbenchref47_follows.f k A l j n p).bind fun t => if t = true then some (n : Int) else signalbenchref47_before.l0 k l (tab l.length g) j p ((n : Int) - 1) A) (fun k => ?_) ?_
      · simp only [signalbenchref47_before.l0, ew, tab_len, rdOf_tab _ _ _ (show n < l.length by omega)]
        rw [if_pos (by omega), if_pos (by omega), if_pos (by omega), if_pos c]
      · refine (rfol_ev A j hj l hl n p (by omega) hp).bind ?_
        by_cases c2 : fol A[j] l n p = true
        · rw [if_pos ⟨c, c2⟩]
          simp only [c2, if_true]
          exact Ev.now _
        · rw [if_neg (fun h => c2 h.2)]
          simp only [if_neg c2]
          exact ih'
    · rw [if_neg (fun h => c h.1)]
      refine Ev.step (fun k => ?_) ih'
      simp only [signalbenchref47_before.l0, ew, tab_len, rdOf_tab _ _ _ (show n < l.length by omega)]
      rw [if_pos (by omega), if_pos (by omega), if_pos (by omega), if_neg c]
theorem beforef_ev (A : List S50) (j : Nat) (hj : j < A.length) (l : List S46) (hl : l.length ≤ 1000000) (g : Nat → Bool) (p : Nat) (hp : p < l.length) :
    Ev (fun k => signalbenchref47_before.f k A l (tab l.length g) j p) (prevQ (rd_T50 A j) l g p p) := by
  rw [rd50 A j hj]
  refine Ev.congr (fun k => ?_) (before_ev A j hj l hl g p hp p (Nat.le_refl _))
  unfold signalbenchref47_before.f
  rw [wr_in (by omega)]
theorem ends_l1 (A : List S50) (h32 : A.length ≤ 32) (l : List S46) (hl : l.length ≤ 1000000) (j : Nat) (hj : j < A.length) (R : List (List Bool))
    (next : Ev (fun k => signalbenchref47_ends.l0 k l (tab A.length (hE A l j l.length)) ((j + 1 : Nat) : Int) A) R) : ∀ d p, p + d = l.length →
    Ev (fun k => signalbenchref47_ends.l1 k l (tab A.length (hE A l j p)) j p A) R := by
  intro d
  induction d with
  | zero =>
    intro p hp
    obtain rfl : p = l.length := by omega
    refine Ev.step (fun k => ?_) next
    simp only [signalbenchref47_ends.l1, wr_nat (show j ≤ 1000000 by omega)]
    rw [if_neg (by omega)]
  | succ d ih =>
    intro p hp
    have ih' := ih (p + 1) (by omega)
    have hw := wr_nat (show p ≤ 1000000 by omega)
    have hrow : rd_L11 (tab A.length (hE A l j p)) (j : Int) = part l.length (gN A l j) p := by rw [rdL11 _ _ _ hj]; simp [hE]
    have hlen : (part l.length (gN A l j) p).length = l.length := tab_len _ _
    have hskip : gN A l j p = false → tab A.length (hE A l j p) = tab A.length (hE A l j (p + 1)) := fun e => tab_congr _ _ _ fun i _ => by
      unfold hE
      by_cases c : i = j
      · rw [if_pos c, if_pos c, part_skip _ _ _ e]
      · rw [if_neg c, if_neg c]
    refine Ev.step (f := fun k => (signalbenchref47_satisfies.f k (rd_T50 A j).f0.f0 (rd_T50 A j).f0.f1 (rd_T50 A j).f0.f2 (rd_T50 A j).f0.f3 (rd_T50 A j).f0.f4 (rd_T46 l p).f0 (rd_T46 l p).f1 (rd_T46 l p).f2.f0 (rd_T46 l p).f2.f1 (rd_T46 l p).f2.f2 (rd_T46 l p).f2.f3 (rd_T46 l p).f2.f4 (rd_T46 l p).f2.f5 (rd_T46 l p).f2.f6).bind fun t => if t = true then (if j = 0 then signalbenchref47_ends.l1 k l ((tab A.length (hE A l j p)).set j ((part l.length (gN A l j) p).set p true)) j ((p + 1 : Nat) : Int) A
        else (signalbenchref47_before.f k A l (rd_L11 (tab A.length (hE A l j p)) ((j - 1 : Nat) : Int)) j p).bind fun t2 => signalbenchref47_ends.l1 k l ((tab A.length (hE A l j p)).set j ((part l.length (gN A l j) p).set p (decide (t2 ≥ 0)))) j ((p + 1 : Nat) : Int) A)
        else signalbenchref47_ends.l1 k l (tab A.length (hE A l j p)) j ((p + 1 : Nat) : Int) A) (fun k => ?_) ?_
    · simp only [signalbenchref47_ends.l1, hw, hrow, tab_len, hlen, Int.toNat_natCast]
      rw [if_pos (by omega), if_pos (by omega), if_pos (by omega), if_pos (by omega)]
      congr 1
      funext t
      by_cases ct : t = true
      · rw [if_pos ct, if_pos ct, if_pos (by omega)]
        by_cases c0 : j = 0
        · rw [if_pos (show (j : Int) = 0 by omega), if_pos c0, if_pos (by omega)]
        · rw [if_neg (show ¬ (j : Int) = 0 by omega), if_neg c0, wr_pred (show 0 < j by omega) (show j ≤ 1000000 by omega), if_pos (by omega), if_pos (by omega)]
          congr 1
          funext t2
          rw [if_pos (by omega)]
      · rw [if_neg ct, if_neg ct]
    · refine (rsat_ev _ _).bind ?_
      by_cases cs : sat (rd_T50 A j).f0 (rd_T46 l p) = true
      · simp only [if_pos cs]
        cases j with
        | zero =>
          simp only [if_true]
          have eg : true = gN A l 0 p := by rw [gN]; exact cs.symm
          rw [hE_set A l A.length 0 p _ (part_set l.length (gN A l 0) p true eg)]
          exact ih'
        | succ i =>
          simp only [if_neg (show ¬ i + 1 = 0 by omega)]
          have hprev : rd_L11 (tab A.length (hE A l (i + 1) p)) ((i + 1 - 1 : Nat) : Int) = tab l.length (gN A l i) := by
            rw [Nat.add_sub_cancel, rdL11 _ _ _ (by omega)]
            unfold hE
            rw [if_neg (by omega), if_pos (by omega)]
          rw [hprev]
          refine (beforef_ev A (i + 1) hj l hl (gN A l i) p (by omega)).bind ?_
          have eg : decide (prevQ (rd_T50 A ((i + 1 : Nat) : Int)) l (gN A l i) p p ≥ 0) = gN A l (i + 1) p := by rw [gN, cs, Bool.true_and]
          rw [hE_set A l A.length (i + 1) p _ (part_set l.length (gN A l (i + 1)) p _ eg)]
          exact ih'
      · simp only [if_neg cs]
        have cs' : sat (rd_T50 A j).f0 (rd_T46 l p) = false := by simpa using cs
        rw [hskip (by cases j with
          | zero => rw [gN]; exact cs'
          | succ i => rw [gN, cs', Bool.false_and])]
        exact ih'
theorem ends_l0 (A : List S50) (h32 : A.length ≤ 32) (l : List S46) (hl : l.length ≤ 1000000) : ∀ d j, j + d = A.length →
    Ev (fun k => signalbenchref47_ends.l0 k l (tab A.length (fun i => if i < j then tab l.length (gN A l i) else [])) j A) (rowsB A l A.length) := by
  intro d
  induction d with
  | zero =>
    intro j hj
    obtain rfl : j = A.length := by omega
    refine Ev.le 1 fun k => ?_
    simp only [signalbenchref47_ends.l0]
    rw [if_neg (by omega)]
    congr 1
    exact tab_congr _ _ _ fun i hi => if_pos hi
  | succ d ih =>
    intro j hj
    have e1 : tab A.length (fun i => if i < j + 1 then tab l.length (gN A l i) else []) = tab A.length (hE A l j l.length) := tab_congr _ _ _ fun i _ => by
      unfold hE
      by_cases c : i = j
      · rw [if_pos c, if_pos (by omega), part_full, c]
      · rw [if_neg c]
        by_cases c2 : i < j
        · rw [if_pos c2, if_pos (by omega)]
        · rw [if_neg c2, if_neg (by omega)]
    have ih' := ih (j + 1) (by omega)
    rw [e1] at ih'
    refine Ev.step (fun k => ?_) (ends_l1 A h32 l hl j (by omega) _ ih' l.length 0 (by omega))
    simp only [signalbenchref47_ends.l0, tab_len, Int.toNat_natCast]
    rw [if_pos (by omega), if_pos (by omega), if_pos (by omega), if_pos (by omega), if_pos (by omega)]
    rw [tab_set A.length _ (hE A l j 0) j _ (fun i _ => by
      unfold hE
      by_cases c : i = j
      · rw [if_pos c, if_pos c, part_zero]
      · rw [if_neg c, if_neg c])]
    rfl
theorem ends_ev (A : List S50) (h32 : A.length ≤ 32) (l : List S46) (hl : l.length ≤ 1000000) : Ev (fun k => signalbenchref47_ends.f k A l) (rowsB A l A.length) := by
  refine Ev.congr (fun k => ?_) (ends_l0 A h32 l hl A.length 0 (by omega))
  unfold signalbenchref47_ends.f
  rw [if_pos (by omega), if_pos (by omega), Int.toNat_natCast]
  have e : List.replicate A.length ([] : List Bool) = tab A.length (fun i => if i < 0 then tab l.length (gN A l i) else []) := by
    refine List.ext_getElem (by simp [tab]) fun i h1 h2 => ?_
    simp [tab]
  rw [e]
  rfl
theorem rall_l0 (l : List S46) (hl : l.length ≤ 1000000) (row : List Bool) (hr : row.length = l.length) : ∀ d p, p + d = l.length →
    Ev (fun k => signalbenchref47_All.l0 k l row (idxT (row.take p) 0) p) (idxT row 0) := by
  intro d
  induction d with
  | zero =>
    intro p hp
    obtain rfl : p = l.length := by omega
    refine Ev.le 1 fun k => ?_
    simp only [signalbenchref47_All.l0]
    rw [if_neg (by omega), ← hr, List.take_length]
  | succ d ih =>
    intro p hp
    have ih' := ih (p + 1) (by omega)
    rw [idxT_snoc' row p (by omega)] at ih'
    have hlen := idxT_len (row.take p) 0
    rw [List.length_take] at hlen
    have ero : rdOf false row (p : Int) = row.getD p false := by unfold rdOf; rw [Int.toNat_natCast]
    refine Ev.step (fun k => ?_) ih'
    simp only [signalbenchref47_All.l0, wr_nat (show p ≤ 1000000 by omega), ero]
    rw [if_pos (by omega), if_pos (by omega), if_pos (by omega)]
    by_cases c : row.getD p false = true
    · rw [if_pos c, if_pos c, if_pos (by omega)]
    · rw [if_neg c, if_neg c, List.append_nil]
theorem rall_ev (A : List S50) (l : List S46) (hl : l.length ≤ 1000000) : Ev (fun k => signalbenchref47_All.f k A l) (finB A l) := by
  unfold signalbenchref47_All.f finB
  refine (rcheck_ev A).bind ?_
  by_cases c : chkErr A = 0
  · have h := chk_len c
    simp only [if_pos c]
    refine (ends_ev A h.2 l hl).bind ?_
    simp only [wr_pred (show 0 < A.length by omega) (show A.length ≤ 1000000 by omega), if_pos (show (0 : Int) ≤ ((A.length - 1 : Nat) : Int) by omega), if_pos (show ((A.length - 1 : Nat) : Int) < ((rowsB A l A.length).length : Int) by rw [rowsB_len]; omega)]
    rw [rowsB, rdL11 _ _ _ (by omega)]
    exact rall_l0 l hl _ (tab_len _ _) l.length 0 (by omega)
  · simp only [if_neg c]
    exact Ev.now _
theorem rnext_ev (A : List S50) (l : List S46) (hl : l.length ≤ 1000000) (x : Int) : Ev (fun k => signalbenchref47_Next.f k A l x) (firstFrom x (finB A l)) := by
  unfold signalbenchref47_Next.f
  refine (rall_ev A l hl).bind ?_
  have hlen := fin_len A l
  have := ev_drop (finB A l) (fun k i => signalbenchref47_Next.l0 k x (finB A l) i) (fun xs _ => firstFrom x xs) ?_ ?_ (finB A l).length 0 (by omega)
  · simpa using this
  · refine Ev.le 1 fun k => ?_
    simp only [signalbenchref47_Next.l0]
    rw [if_neg (by omega)]
    rfl
  · intro i hi ih
    rw [firstFrom]
    by_cases c : x ≤ (finB A l)[i]
    · rw [if_pos c]
      refine Ev.le 1 fun k => ?_
      simp only [signalbenchref47_Next.l0, rd_get _ i hi]
      rw [if_pos (by omega), if_pos (by omega), if_pos (by omega)]
    · rw [if_neg c]
      refine Ev.step (fun k => ?_) ih
      simp only [signalbenchref47_Next.l0, rd_get _ i hi, wr_nat (show i ≤ 1000000 by omega)]
      rw [if_pos (by omega), if_pos (by omega), if_neg (by omega)]
end Go.Proofs.Ytgdjiphljadlcaa.K
