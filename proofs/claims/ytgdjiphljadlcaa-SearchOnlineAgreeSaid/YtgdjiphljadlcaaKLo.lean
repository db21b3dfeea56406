/- The plain law SearchOnlineAgree (layer 47); no condition. -/
import Derived.Test.YtgdjiphljadlcaaKQh
import Derived.Test.YtgdjiphljadlcaaKQi
import Derived.Test.YtgdjiphljadlcaaK40
namespace Go.Proofs.Ytgdjiphljadlcaa.K
open Go.RowKit Go.Proofs.YtgdjiphljadlcaaW.PrintWords Go.Proofs.YtgdjiphljadlcaaW.PrintLast Go.Proofs.YtgdjiphljadlcaaW.PrintMore
set_option linter.unusedSimpArgs false
theorem rd_tabO (n : Nat) (g : Nat → Int) (i : Nat) (h : i < n) : rd (tab n g) (i : Int) = g i := by
  unfold rd
  rw [Int.toNat_natCast, tab_getD _ _ _ _ h]
/-- does the observation match the step at j? -/
def mtO (A : List S50) (o : S46) (old : Nat → Int) (j : Nat) : Bool :=
  sat (rd_T50 A (j : Int)).f0 o && (decide (j = 0) || (decide (0 ≤ old (j - 1)) && (decide ((rd_T50 A (j : Int)).f1 = 0) || decide (wrap64 (o.f1 - old (j - 1)) ≤ (rd_T50 A (j : Int)).f1))))
def fbO (A : List S50) (o : S46) (j : Nat) : Bool := decide (0 < j) && forb (rd_T50 A (j : Int)) o
def nwO (A : List S50) (o : S46) (old : Nat → Int) (n j : Nat) : Int := if mtO A o old j = true then o.f1 else if (decide (j + 1 < n) && fbO A o (j + 1)) = true then -1 else old j
/-- what is remembered behind c of the n levels -/
def stO (A : List S50) (o : S46) (old : Nat → Int) (n c j : Nat) : Int :=
  if n ≤ j + c then nwO A o old n j else if (decide (n = j + 1 + c) && decide (0 < c) && fbO A o (j + 1)) = true then -1 else old j
def OkT (o : S46) : Prop := 0 ≤ o.f1 ∧ o.f1 ≤ 1099511627776
theorem sat_hold (c : S42) (o : S46) (ho : OkT o) : sat c o = holdB c.f0 c.f1 c.f2 c.f3 c.f4 o.f0 o.f2.f0 o.f2.f1 o.f2.f2 o.f2.f3 o.f2.f4 o.f2.f5 o.f2.f6 := by
  unfold sat
  rw [decide_eq_true (show 0 ≤ o.f1 ∧ o.f1 ≤ 1099511627776 from ho), Bool.true_and]
theorem hold_sat (c : S42) (o : S46) (ho : OkT o) : Ev (fun k => trigauto_Holds.f k c.f0 c.f1 c.f2 c.f3 c.f4 o.f0 o.f1 o.f2.f0 o.f2.f1 o.f2.f2 o.f2.f3 o.f2.f4 o.f2.f5 o.f2.f6) (sat c o) := by
  rw [sat_hold c o ho]
  exact holds_ev _ _ _ _ _ _ _ _ _ _ _ _ _ _
theorem matched_ev (A : List S50) (o : S46) (ho : OkT o) (old : Nat → Int) (h1 : 1 ≤ A.length) (h32 : A.length ≤ 32) (hold : ∀ j, j < A.length → -1 ≤ old j ∧ old j ≤ 1099511627776) (c j : Nat) (hj : j + 1 + c = A.length) :
    Ev (fun k => online_matched.f k A (tab A.length (stO A o old A.length c)) (j : Int) o.f0 o.f1 o.f2.f0 o.f2.f1 o.f2.f2 o.f2.f3 o.f2.f4 o.f2.f5 o.f2.f6) (mtO A o old j) := by
  unfold online_matched.f mtO
  simp only [if_pos (show (0 : Int) ≤ (j : Int) by omega), if_pos (show (j : Int) < (A.length : Int) by omega)]
  refine (hold_sat (rd_T50 A (j : Int)).f0 o ho).bind ?_
  cases hs : sat (rd_T50 A (j : Int)).f0 o
  · simp only [Bool.false_eq_true, if_false, Bool.false_and]
    exact Ev.now _
  · simp only [if_true, Bool.true_and]
    by_cases c0 : j = 0
    · subst c0
      simp only [if_pos (show ((0 : Nat) : Int) = 0 from rfl), decide_true, Bool.true_or]
      exact Ev.now _
    · have hw : wrap64 ((j : Int) - 1) = ((j - 1 : Nat) : Int) := wr_pred (by omega) (by omega)
      have hr : rd (tab A.length (stO A o old A.length c)) ((j - 1 : Nat) : Int) = old (j - 1) := by
        rw [rd_tabO _ _ _ (by omega), stO, if_neg (by omega), decide_eq_false (show ¬ A.length = j - 1 + 1 + c by omega)]
        simp
      simp only [if_neg (show ¬ (j : Int) = 0 by omega), hw, if_pos (show (0 : Int) ≤ ((j - 1 : Nat) : Int) by omega), tab_len, if_pos (show ((j - 1 : Nat) : Int) < (A.length : Int) by omega), hr, decide_eq_false c0, Bool.false_or]
      have ho := hold (j - 1) (by omega)
      by_cases c2 : old (j - 1) = -1
      · simp only [if_pos c2]
        rw [decide_eq_false (show ¬ 0 ≤ old (j - 1) by omega), Bool.false_and]
        exact Ev.now _
      · simp only [if_neg c2]
        rw [decide_eq_true (show 0 ≤ old (j - 1) by omega), Bool.true_and]
        by_cases c3 : (rd_T50 A (j : Int)).f1 = 0
        · simp only [if_pos c3, decide_eq_true c3, Bool.true_or]
          exact Ev.now _
        · simp only [if_neg c3, decide_eq_false c3, Bool.false_or]
          exact Ev.now _
theorem stO_next (A : List S50) (o : S46) (old : Nat → Int) (n c j : Nat) (hj : j + 1 + c = n) :
    (if mtO A o old j = true then (if fbO A o j = true then (tab n (stO A o old n c)).set (j - 1) (-1) else tab n (stO A o old n c)).set j o.f1 else (if fbO A o j = true then (tab n (stO A o old n c)).set (j - 1) (-1) else tab n (stO A o old n c))) = tab n (stO A o old n (c + 1)) := by
  have hmid : (if fbO A o j = true then (tab n (stO A o old n c)).set (j - 1) (-1) else tab n (stO A o old n c)) = tab n (fun i => if i + 1 = j ∧ fbO A o j = true then -1 else stO A o old n c i) := by
    by_cases cf : fbO A o j = true
    · have hj0 : 0 < j := by
        unfold fbO at cf
        rw [Bool.and_eq_true, decide_eq_true_eq] at cf
        exact cf.1
      rw [if_pos cf]
      refine tab_set _ _ _ _ _ fun i hi => ?_
      by_cases e : i = j - 1
      · rw [if_pos e, if_pos ⟨by omega, cf⟩]
      · rw [if_neg e, if_neg (fun h => e (by omega))]
    · rw [if_neg cf]
      refine tab_congr _ _ _ fun i hi => ?_
      rw [if_neg (fun h => cf h.2)]
  rw [hmid]
  have hfin : ∀ i, i < n → stO A o old n (c + 1) i = if i = j then (if mtO A o old j = true then o.f1 else stO A o old n c j) else (if i + 1 = j ∧ fbO A o j = true then -1 else stO A o old n c i) := by
    intro i hi
    by_cases e : i = j
    · subst e
      rw [if_pos rfl]
      unfold stO nwO
      rw [if_pos (show n ≤ i + (c + 1) by omega), if_neg (show ¬ n ≤ i + c by omega)]
      by_cases cm : mtO A o old i = true
      · rw [if_pos cm, if_pos cm]
      · rw [if_neg cm, if_neg cm]
        by_cases c0 : 0 < c
        · rw [decide_eq_true (show i + 1 < n by omega), decide_eq_true (show n = i + 1 + c by omega), decide_eq_true c0]
          simp
        · rw [decide_eq_false (show ¬ i + 1 < n by omega), decide_eq_false c0]
          simp
    · rw [if_neg e]
      unfold stO
      by_cases c1 : n ≤ i + c
      · rw [if_pos (by omega), if_neg (fun h => by omega), if_pos c1]
      · rw [if_neg (by omega), if_neg c1]
        rw [decide_eq_false (show ¬ n = i + 1 + c by omega)]
        by_cases c2 : i + 1 = j
        · rw [decide_eq_true (show n = i + 1 + (c + 1) by omega), decide_eq_true (show 0 < c + 1 by omega), c2]
          by_cases cf : fbO A o j = true
          · rw [cf]; simp
          · have cf' : fbO A o j = false := by simpa using cf
            rw [cf']; simp
        · rw [decide_eq_false (show ¬ n = i + 1 + (c + 1) by omega)]
          simp [c2]
  by_cases cm : mtO A o old j = true
  · rw [if_pos cm]
    refine tab_set _ _ _ _ _ fun i hi => ?_
    rw [hfin i hi]
    by_cases e : i = j
    · rw [if_pos e, if_pos e, if_pos cm]
    · rw [if_neg e, if_neg e]
  · rw [if_neg cm]
    refine tab_congr _ _ _ fun i hi => ?_
    rw [hfin i hi]
    by_cases e : i = j
    · subst e
      rw [if_pos rfl, if_neg cm, if_neg (fun h => by omega)]
    · rw [if_neg e]
theorem step_j3 (A : List S50) (o : S46) (old : Nat → Int) (h32 : A.length ≤ 32) (c j : Nat) (hj : j + 1 + c = A.length) (d : Bool) (R : List Int × Bool)
    (h : Ev (fun k => online_Step.l0 k (tab A.length (stO A o old A.length (c + 1))) (d || (decide (c = 0) && mtO A o old j)) (A.length : Int) ((c + 1 : Nat) : Int) A o.f0 o.f1 o.f2.f0 o.f2.f1 o.f2.f2 o.f2.f3 o.f2.f4 o.f2.f5 o.f2.f6) R) :
    Ev (fun k => online_Step.j3 k (tab A.length (stO A o old A.length c)) d (c : Int) (j : Int) (mtO A o old j) (A.length : Int) (c : Int) (fbO A o j) A o.f0 o.f1 o.f2.f0 o.f2.f1 o.f2.f2 o.f2.f3 o.f2.f4 o.f2.f5 o.f2.f6) R := by
  rw [← stO_next A o old A.length c j hj] at h
  have hw : wrap64 ((c : Int) + 1) = ((c + 1 : Nat) : Int) := wr_nat (by omega)
  have hb : ((c : Int) == 0) = decide (c = 0) := by
    by_cases e : c = 0
    · subst e; rfl
    · rw [decide_eq_false e, beq_eq_false_iff_ne]; omega
  refine Ev.step (fun k => ?_) h
  simp only [online_Step.j3]
  cases hf : fbO A o j
  · simp only [hf, Bool.false_eq_true, if_false]
    cases hm : mtO A o old j
    · simp only [Bool.false_eq_true, if_false, Bool.and_false, Bool.or_false, hw]
    · simp only [if_true, tab_len, if_pos (show (0 : Int) ≤ (j : Int) by omega), if_pos (show (j : Int) < (A.length : Int) by omega), Option.bind_some, Int.toNat_natCast, Bool.and_true, hw, hb]
      cases d
      · simp
      · simp
  · have hj0 : 0 < j := by
      unfold fbO at hf
      rw [Bool.and_eq_true, decide_eq_true_eq] at hf
      exact hf.1
    have hp : wrap64 ((j : Int) - 1) = ((j - 1 : Nat) : Int) := wr_pred hj0 (by omega)
    simp only [hf, if_true, hp, tab_len, if_pos (show (0 : Int) ≤ ((j - 1 : Nat) : Int) by omega), if_pos (show ((j - 1 : Nat) : Int) < (A.length : Int) by omega), Option.bind_some, Int.toNat_natCast]
    cases hm : mtO A o old j
    · simp only [Bool.false_eq_true, if_false, Bool.and_false, Bool.or_false, hw]
    · simp only [if_true, List.length_set, tab_len, if_pos (show (0 : Int) ≤ (j : Int) by omega), if_pos (show (j : Int) < (A.length : Int) by omega), Option.bind_some, Bool.and_true, hw, hb]
      cases d
      · simp
      · simp
theorem step_l0 (A : List S50) (o : S46) (ho : OkT o) (old : Nat → Int) (h1 : 1 ≤ A.length) (h32 : A.length ≤ 32) (hold : ∀ j, j < A.length → -1 ≤ old j ∧ old j ≤ 1099511627776) : ∀ d c, c + d = A.length →
    Ev (fun k => online_Step.l0 k (tab A.length (stO A o old A.length c)) (decide (0 < c) && mtO A o old (A.length - 1)) (A.length : Int) (c : Int) A o.f0 o.f1 o.f2.f0 o.f2.f1 o.f2.f2 o.f2.f3 o.f2.f4 o.f2.f5 o.f2.f6) (tab A.length (nwO A o old A.length), mtO A o old (A.length - 1)) := by
  intro d
  induction d with
  | zero =>
    intro c hc
    obtain rfl : c = A.length := by omega
    refine Ev.le 1 fun k => ?_
    simp only [online_Step.l0]
    rw [if_neg (by omega), decide_eq_true (show 0 < A.length by omega), Bool.true_and]
    congr 2
    refine tab_congr _ _ _ fun i hi => ?_
    rw [stO, if_pos (by omega)]
  | succ d ih =>
    intro c hc
    have hj : (A.length - 1 - c) + 1 + c = A.length := by omega
    have hix : wrap64 (wrap64 ((A.length : Int) - 1) - (c : Int)) = ((A.length - 1 - c : Nat) : Int) := by
      rw [wr_in (n := (A.length : Int) - 1) (by omega), wr_in (by omega)]
      omega
    have hm := matched_ev A o ho old h1 h32 hold c (A.length - 1 - c) hj
    generalize hjj : A.length - 1 - c = j at hj hix hm
    have hdone : (decide (0 < c) && mtO A o old (A.length - 1) || (decide (c = 0) && mtO A o old j)) = (decide (0 < c + 1) && mtO A o old (A.length - 1)) := by
      by_cases e : c = 0
      · subst e
        rw [show j = A.length - 1 by omega]
        simp
      · rw [decide_eq_true (show 0 < c by omega), decide_eq_false e, decide_eq_true (show 0 < c + 1 by omega)]
        simp
    have h3 := step_j3 A o old h32 c j hj (decide (0 < c) && mtO A o old (A.length - 1)) _ (by rw [hdone]; exact ih (c + 1) (by omega))
    refine Ev.step (fun k => by simp only [online_Step.l0, hix]; rw [if_pos (by omega)]) (hm.bind ?_)
    by_cases c0 : 0 < j
    · simp only [if_pos (show (j : Int) > 0 by omega), if_pos (show (0 : Int) ≤ (j : Int) by omega), if_pos (show (j : Int) < (A.length : Int) by omega)]
      have hfb : fbO A o j = ((rd_T50 A (j : Int)).f2 && sat (rd_T50 A (j : Int)).f3 o) := by
        unfold fbO forb
        rw [decide_eq_true c0, Bool.true_and]
      cases h2 : (rd_T50 A (j : Int)).f2
      · rw [h2, Bool.false_and] at hfb
        rw [hfb] at h3
        simp only [Bool.false_eq_true, if_false]
        exact h3
      · rw [h2, Bool.true_and] at hfb
        rw [hfb] at h3
        simp only [if_true]
        exact (hold_sat (rd_T50 A (j : Int)).f3 o ho).bind h3
    · have hfb : fbO A o j = false := by
        unfold fbO
        rw [decide_eq_false c0, Bool.false_and]
      rw [hfb] at h3
      simp only [if_neg (show ¬ (j : Int) > 0 by omega)]
      exact h3
theorem valid_l0 (n : Nat) (h32 : n ≤ 32) (old : Nat → Int) (hold : ∀ j, j < n → -1 ≤ old j ∧ old j ≤ 1099511627776) : ∀ d i, i + d = n → Ev (fun k => online_valid.l0 k (tab n old) (n : Int) (i : Int)) true := by
  intro d
  induction d with
  | zero =>
    intro i hi
    refine Ev.le 1 fun k => ?_
    simp only [online_valid.l0]
    rw [if_neg (by omega)]
  | succ d ih =>
    intro i hi
    have := hold i (by omega)
    refine Ev.step (fun k => ?_) (ih (i + 1) (by omega))
    simp only [online_valid.l0, tab_len, rd_tabO n old i (by omega), wr_nat (show i ≤ 1000000 by omega)]
    rw [if_pos (by omega), if_pos (by omega), if_pos (by omega), if_neg (by omega), if_neg (by omega)]
theorem ostep_ev (A : List S50) (hA : chkErr A = 0) (o : S46) (ho : OkT o) (old : Nat → Int) (hold : ∀ j, j < A.length → -1 ≤ old j ∧ old j ≤ 1099511627776) :
    Ev (fun k => online_Step.f k A (tab A.length old) o.f0 o.f1 o.f2.f0 o.f2.f1 o.f2.f2 o.f2.f3 o.f2.f4 o.f2.f5 o.f2.f6) (tab A.length (nwO A o old A.length), mtO A o old (A.length - 1)) := by
  obtain ⟨h1, h32⟩ := chk_len hA
  have hc := check_ev A
  rw [hA] at hc
  unfold online_Step.f
  refine hc.bind ?_
  simp only [if_true]
  refine Ev.bind (g := fun _ => slices_Clone_int_int.f (tab A.length old)) (Ev.some_ (r := tab A.length old) fun k => by unfold slices_Clone_int_int.f; rw [tab_len, if_pos (by omega)]) ?_
  have hv : Ev (fun k => online_valid.f k A (tab A.length old)) true := by
    unfold online_valid.f
    simp only [tab_len, if_true]
    exact valid_l0 A.length h32 old hold A.length 0 (by omega)
  refine hv.bind ?_
  · simp only [if_true]
    have h0 := step_l0 A o ho old h1 h32 hold A.length 0 (by omega)
    have e0 : tab A.length (stO A o old A.length 0) = tab A.length old := tab_congr _ _ _ fun i hi => by
      rw [stO, if_neg (by omega), decide_eq_false (show ¬ 0 < 0 by omega)]
      simp
    rw [e0, decide_eq_false (show ¬ 0 < 0 by omega), Bool.false_and] at h0
    refine Ev.step (fun k => by simp only [online_Step.j0]; rw [if_neg (by have := ho.1; omega)]) ?_
    rw [decide_eq_false (show ¬ o.f1 > 1099511627776 by have := ho.2; omega)]
    refine Ev.step (fun k => by simp only [online_Step.j1, Bool.false_eq_true, if_false]; rfl) h0
/-- what the online search remembers before the observation at i -/
def KeepO (A : List S50) (l : List S46) (i : Nat) (old : Nat → Int) : Prop :=
  (∀ j, j < A.length → -1 ≤ old j ∧ old j ≤ 1099511627776) ∧ ∀ j, j + 1 < A.length → Live (rd_T50 A ((j + 1 : Nat) : Int)) l (gN A l j) i (old j)
theorem mt_is (A : List S50) (l : List S46) (i : Nat) (old : Nat → Int) (ht : OkT (rd_T46 l i)) (h : KeepO A l i old) (j : Nat) (hj : j < A.length) : mtO A (rd_T46 l i) old j = gN A l j i := by
  unfold mtO
  cases j with
  | zero =>
    rw [gN]
    simp
  | succ j =>
    rw [gN, live_has (fun q hq => gN_at hq) (h.2 j hj) ht, decide_eq_false (show ¬ j + 1 = 0 by omega), Bool.false_or, Nat.add_sub_cancel]
theorem keep_next (A : List S50) (l : List S46) (i : Nat) (hi : i < l.length) (hasc : ∀ q, q ≤ i → OkT (rd_T46 l q) ∧ (rd_T46 l q).f1 ≤ (rd_T46 l i).f1) (old : Nat → Int) (h : KeepO A l i old) : KeepO A l (i + 1) (nwO A (rd_T46 l i) old A.length) := by
  have ht := (hasc i (Nat.le_refl _)).1
  refine ⟨fun j hj => ?_, fun j hj => ?_⟩
  · have := h.1 j hj
    unfold nwO
    have h1 := ht.1
    have h2 := ht.2
    split
    · omega
    · split <;> omega
  · have hn := live_next hi (fun q hq => gN_at hq) (h.2 j hj) _ rfl
    have hf : (decide (j + 1 < A.length) && fbO A (rd_T46 l i) (j + 1)) = forb (rd_T50 A ((j + 1 : Nat) : Int)) (rd_T46 l i) := by
      unfold fbO
      rw [decide_eq_true hj, decide_eq_true (show 0 < j + 1 by omega)]
      simp
    have he : nwO A (rd_T46 l i) old A.length j = if gN A l j i = true then mx (if forb (rd_T50 A ((j + 1 : Nat) : Int)) (rd_T46 l i) = true then -1 else old j) (rd_T46 l i).f1 else (if forb (rd_T50 A ((j + 1 : Nat) : Int)) (rd_T46 l i) = true then -1 else old j) := by
      unfold nwO
      rw [mt_is A l i old ht h j (by omega), hf]
      by_cases c : gN A l j i = true
      · rw [if_pos c, if_pos c]
        have hle : old j ≤ (rd_T46 l i).f1 := by
          rcases (h.2 j hj).1 with e | ⟨q, e1, _, _, e4⟩
          · have := ht.1; omega
          · have := (hasc q (by omega)).2; omega
        have h0 := ht.1
        unfold mx
        by_cases c2 : forb (rd_T50 A ((j + 1 : Nat) : Int)) (rd_T46 l i) = true
        · rw [if_pos c2]; split <;> omega
        · rw [if_neg c2]; split <;> omega
      · rw [if_neg c, if_neg c]
    rw [he]
    exact hn
theorem run_l0 (A : List S50) (hA : chkErr A = 0) (l : List S46) (hl : l.length ≤ 1000000) (hasc : ∀ i, i < l.length → ∀ q, q ≤ i → OkT (rd_T46 l q) ∧ (rd_T46 l q).f1 ≤ (rd_T46 l i).f1) : ∀ d i (old : Nat → Int), i + d = l.length → KeepO A l i old →
    Ev (fun k => online_Run.l0 k (idxT ((tab l.length (gN A l (A.length - 1))).take i) 0) l (l.length : Int) (i : Int) A (tab A.length old)) (idxT (tab l.length (gN A l (A.length - 1))) 0) := by
  intro d
  induction d with
  | zero =>
    intro i old hi h
    refine Ev.le 1 fun k => ?_
    simp only [online_Run.l0]
    rw [if_neg (by omega), List.take_of_length_le (by rw [tab_len]; omega)]
  | succ d ih =>
    intro i old hi h
    have hlt : i < l.length := by omega
    have ht := (hasc i hlt i (Nat.le_refl _)).1
    obtain ⟨h1, h32⟩ := chk_len hA
    have hs := ostep_ev A hA (rd_T46 l i) ht old h.1
    rw [mt_is A l i old ht h (A.length - 1) (by omega)] at hs
    have hn := ih (i + 1) _ (by omega) (keep_next A l i hlt (hasc i hlt) old h)
    have hsn := idxT_snoc' (tab l.length (gN A l (A.length - 1))) i (by rw [tab_len]; exact hlt)
    rw [tab_getD _ _ _ _ hlt] at hsn
    rw [hsn] at hn
    have hlen : (idxT ((tab l.length (gN A l (A.length - 1))).take i) 0).length ≤ 1000000 := Nat.le_trans (idxT_len _ _) (by rw [List.length_take, tab_len]; omega)
    refine Ev.step (f := fun k => (online_Step.f k A (tab A.length old) (rd_T46 l i).f0 (rd_T46 l i).f1 (rd_T46 l i).f2.f0 (rd_T46 l i).f2.f1 (rd_T46 l i).f2.f2 (rd_T46 l i).f2.f3 (rd_T46 l i).f2.f4 (rd_T46 l i).f2.f5 (rd_T46 l i).f2.f6).bind _) (fun k => by simp only [online_Run.l0, wr_nat (show i ≤ 1000000 by omega)]; rw [if_pos (by omega), if_pos (by omega), if_pos (by omega)]) (hs.bind ?_)
    cases hg : gN A l (A.length - 1) i
    · rw [hg] at hn
      simp only [Bool.false_eq_true, if_false, List.append_nil] at hn ⊢
      exact hn
    · rw [hg] at hn
      simp only [if_true] at hn ⊢
      simp only [if_pos (show (idxT ((tab l.length (gN A l (A.length - 1))).take i) 0).length < 17592186044416 by omega)]
      exact hn
theorem run_ev (A : List S50) (l : List S46) (hl : l.length ≤ 1000000) (hasc : ∀ i, i < l.length → ∀ q, q ≤ i → OkT (rd_T46 l q) ∧ (rd_T46 l q).f1 ≤ (rd_T46 l i).f1) : Ev (fun k => online_Run.f k A l) (finB A l) := by
  unfold online_Run.f finB
  refine (check_ev A).bind ?_
  by_cases hA : chkErr A = 0
  · simp only [if_pos hA]
    obtain ⟨h1, h32⟩ := chk_len hA
    have hst : Ev (fun k => online_Start.f k A) (tab A.length fun _ => -1) := by
      have hc := check_ev A
      rw [hA] at hc
      unfold online_Start.f
      refine hc.bind ?_
      simp only [if_true]
      refine Ev.some_ fun k => ?_
      unfold slices_Repeat_int_int.f
      rw [if_pos ⟨rfl, by omega, by omega⟩, Option.bind_some, Int.toNat_natCast]
      congr 1
      unfold tab
      rw [List.map_const', List.length_range]
      rfl
    refine hst.bind ?_
    have := run_l0 A hA l hl hasc l.length 0 (fun _ => -1) (by omega) ⟨fun j _ => ⟨by show (-1 : Int) ≤ -1; omega, by show (-1 : Int) ≤ 1099511627776; omega⟩, fun j hj => ⟨Or.inl rfl, fun q hq => by omega⟩⟩
    rw [List.take_zero] at this
    exact this
  · simp only [if_neg hA]
    exact Ev.now _
theorem online_pure (A : List S50) (l : List S46) : ∃ k, signalbenchlaw47_SearchOnlineAgree.f k A l = some true := by
  refine Ev.rounds (g := fun k => signalbenchlaw47_SearchOnlineAgree.f k A l) ?_
  unfold signalbenchlaw47_SearchOnlineAgree.f
  refine (asc_ev l).bind ?_
  by_cases ca : ascL l = true
  · have ca' := ca
    unfold ascL at ca'
    rw [Bool.and_eq_true, decide_eq_true_eq] at ca'
    obtain ⟨hl, hb⟩ := ca'
    have hasc : ∀ i, i < l.length → ∀ q, q ≤ i → OkT (rd_T46 l q) ∧ (rd_T46 l q).f1 ≤ (rd_T46 l i).f1 := fun i hi q hq => by
      have h1 := asc_one l l.length 0 hb q (Nat.zero_le _) (by omega)
      have h2 := asc_le l ca (i - q) q (by omega)
      rw [show q + (i - q) = i by omega] at h2
      exact ⟨⟨h1.1, h1.2.1⟩, h2⟩
    simp only [if_pos ca]
    refine (all_ev A l (by omega)).bind ((run_ev A l (by omega) hasc).bind ?_)
    refine (ints_ev (finB A l) (by have := fin_len A l; omega)).bind ?_
    simp only [if_true]
    exact awake_ev
  · simp only [if_neg ca]
    exact awake_ev
end Go.Proofs.Ytgdjiphljadlcaa.K
