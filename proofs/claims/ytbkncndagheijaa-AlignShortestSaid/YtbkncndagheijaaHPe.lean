/- What the functions of layer 54 come to: distances, pairs, costs, equality, the examples; plain law over the printed functions. -/
import Derived.Test.YtbkncndagheijaaHPd
import Derived.Test.YtbkncndagheijaaH6
namespace Go.Proofs.Ytbkncndagheijaa.H
open Go.RowKit Go.Proofs.YtbkncndagheijaaW.PrintWords Go.Proofs.YtbkncndagheijaaW.PrintLast Go.Proofs.Ytbkncndagheijaa.Lev
/-- how many elements are dropped or inserted -/
def cst : List S43 → Nat
  | [] => 0
  | x :: l => if x.f0 = -1 ∨ x.f1 = -1 then cst l + 1 else cst l
theorem cst_le (l : List S43) : cst l ≤ l.length := by
  induction l with
  | nil => simp [cst]
  | cons x l ih => simp only [cst, List.length_cons]; split <;> omega
theorem PA.cst {a b : List ByteArray} {i j n : Nat} {l : List S43} (h : PA a b i j l n) : H.cst l = n := by
  induction h with
  | done => rfl
  | both _ _ _ _ ih => simp only [H.cst]; rw [if_neg (by omega)]; exact ih
  | left _ _ ih => simp only [H.cst]; rw [if_pos (Or.inr trivial), ih]
  | right _ _ ih => simp only [H.cst]; rw [if_pos (Or.inl trivial), ih]
theorem cost_from {l : List S43} (hl : l.length ≤ 300000) : ∀ (d p c : Nat), p + d = l.length → c ≤ p → Ev (fun k => signalbenchlaw54_cost.l0 k l (c : Int) (p : Int)) ((c + cst (l.drop p) : Nat) : Int) := by
  intro d
  induction d with
  | zero =>
    intro p c hp hc
    obtain rfl : p = l.length := by omega
    rw [List.drop_length]
    refine Ev.val 1 (fun k => ?_)
    simp only [signalbenchlaw54_cost.l0, cst]
    rw [if_neg (by omega), Nat.add_zero]
  | succ d ih =>
    intro p c hp hc
    rw [rd_drop l p (by omega)]
    have W1 : Aside0 (wrap64 ((c : Int) + 1) = ((c + 1 : Nat) : Int)) := ⟨by rw [wr_in (by omega)]; omega⟩
    have W3 : Aside0 (wrap64 ((p : Int) + 1) = ((p + 1 : Nat) : Int)) := ⟨by rw [wr_in (by omega)]; omega⟩
    generalize hx : rd_T43 l (p : Int) = x
    have HX := Aside0.mk hx
    clear hx
    simp only [cst]
    by_cases c0 : x.f0 = -1
    · rw [if_pos (Or.inl c0)]
      have h := ih (p + 1) (c + 1) (by omega) (by omega)
      rw [show c + 1 + cst (l.drop (p + 1)) = c + (cst (l.drop (p + 1)) + 1) from by omega] at h
      refine Ev.step (fun k => ?_) h
      simp only [signalbenchlaw54_cost.l0, HX.out, W1.out, W3.out]
      rw [if_pos (by omega), if_pos (by omega), if_pos c0]
    · by_cases c1 : x.f1 = -1
      · rw [if_pos (Or.inr c1)]
        have h := ih (p + 1) (c + 1) (by omega) (by omega)
        rw [show c + 1 + cst (l.drop (p + 1)) = c + (cst (l.drop (p + 1)) + 1) from by omega] at h
        refine Ev.step (fun k => ?_) h
        simp only [signalbenchlaw54_cost.l0, HX.out, W1.out, W3.out]
        rw [if_pos (by omega), if_pos (by omega), if_neg c0, if_pos c1]
      · rw [if_neg (by omega)]
        refine Ev.step (fun k => ?_) (ih (p + 1) c (by omega) (by omega))
        simp only [signalbenchlaw54_cost.l0, HX.out, W3.out]
        rw [if_pos (by omega), if_pos (by omega), if_neg c0, if_neg c1]
theorem cost_ev {l : List S43} (hl : l.length ≤ 300000) : Ev (fun k => signalbenchlaw54_cost.f k l) (cst l : Int) := by
  have h := cost_from hl l.length 0 0 (by omega) (by omega)
  rw [List.drop_zero, Nat.zero_add] at h
  exact h
theorem same_from {l : List S43} (hl : l.length ≤ 300000) : ∀ (d p : Nat), p + d = l.length → Ev (fun k => signalbenchlaw54_same.l0 k l l (p : Int)) true := by
  intro d
  induction d with
  | zero =>
    intro p hp
    refine Ev.val 1 (fun k => ?_)
    simp only [signalbenchlaw54_same.l0]
    rw [if_neg (by omega)]
  | succ d ih =>
    intro p hp
    have W3 : Aside0 (wrap64 ((p : Int) + 1) = ((p + 1 : Nat) : Int)) := ⟨by rw [wr_in (by omega)]; omega⟩
    refine Ev.step (fun k => ?_) (ih (p + 1) (by omega))
    simp only [signalbenchlaw54_same.l0, W3.out]
    rw [if_pos (by omega), if_pos (by omega), if_pos (by omega), if_neg (by simp)]
theorem same_ev {l : List S43} (hl : l.length ≤ 300000) : Ev (fun k => signalbenchlaw54_same.f k l l) true := by
  refine Ev.congr (fun k => ?_) (same_from hl l.length 0 (by omega))
  simp only [signalbenchlaw54_same.f]
  rw [if_pos trivial]
  rfl
theorem Ls_eq_cons {a b : List ByteArray} {p : Nat} (ha : p < a.length) (hb : p < b.length) : (Ls a).drop p = (Ls b).drop p ↔ (rdOf ByteArray.empty a p).toList = (rdOf ByteArray.empty b p).toList ∧ (Ls a).drop (p + 1) = (Ls b).drop (p + 1) := by
  rw [Ls_drop a p ha, Ls_drop b p hb]
  exact List.cons_eq_cons
theorem equal_from {a b : List ByteArray} (hl : a.length ≤ 300000) (hab : a.length = b.length) : ∀ (d p : Nat), p + d = a.length → Ev (fun k => signalbenchlaw54_equal.l0 k a b (p : Int)) (decide ((Ls a).drop p = (Ls b).drop p)) := by
  intro d
  induction d with
  | zero =>
    intro p hp
    refine Ev.val 1 (fun k => ?_)
    simp only [signalbenchlaw54_equal.l0]
    rw [if_neg (by omega), decide_eq_true]
    rw [List.drop_of_length_le (by rw [Ls_length]; omega), List.drop_of_length_le (by rw [Ls_length]; omega)]
  | succ d ih =>
    intro p hp
    have W3 : Aside0 (wrap64 ((p : Int) + 1) = ((p + 1 : Nat) : Int)) := ⟨by rw [wr_in (by omega)]; omega⟩
    by_cases c : (rdOf ByteArray.empty a p).toList = (rdOf ByteArray.empty b p).toList
    · have e : decide ((Ls a).drop p = (Ls b).drop p) = decide ((Ls a).drop (p + 1) = (Ls b).drop (p + 1)) := decide_eq_decide.2 ((Ls_eq_cons (by omega) (by omega)).trans ⟨fun h => h.2, fun h => ⟨c, h⟩⟩)
      rw [e]
      refine Ev.step (fun k => ?_) (ih (p + 1) (by omega))
      simp only [signalbenchlaw54_equal.l0, W3.out]
      rw [if_pos (by omega), if_pos (by omega), if_pos (by omega), if_pos c]
    · have e : decide ((Ls a).drop p = (Ls b).drop p) = false := decide_eq_false (fun h => c ((Ls_eq_cons (by omega) (by omega)).1 h).1)
      rw [e]
      refine Ev.val 1 (fun k => ?_)
      simp only [signalbenchlaw54_equal.l0]
      rw [if_pos (by omega), if_pos (by omega), if_pos (by omega), if_neg c]
theorem equal_ev {a b : List ByteArray} (hl : a.length ≤ 300000) : Ev (fun k => signalbenchlaw54_equal.f k a b) (decide (Ls a = Ls b)) := by
  by_cases c : a.length = b.length
  · have h := equal_from hl c a.length 0 (by omega)
    rw [List.drop_zero, List.drop_zero] at h
    refine Ev.congr (fun k => ?_) h
    simp only [signalbenchlaw54_equal.f]
    rw [if_pos (by omega)]
    rfl
  · have e : decide (Ls a = Ls b) = false := decide_eq_false (fun h => c (by rw [← Ls_length a, h, Ls_length]))
    rw [e]
    refine Ev.val 0 (fun k => ?_)
    simp only [signalbenchlaw54_equal.f]
    rw [if_neg (by omega)]
theorem small_from {l : List ByteArray} (hl : l.length ≤ 12) : ∀ (d p : Nat), p + d = l.length → ∃ r, Ev (fun k => signalbenchlaw54_small.l0 k l (p : Int)) r := by
  intro d
  induction d with
  | zero =>
    intro p hp
    refine ⟨true, Ev.val 1 (fun k => ?_)⟩
    simp only [signalbenchlaw54_small.l0]
    rw [if_neg (by omega)]
  | succ d ih =>
    intro p hp
    have W3 : Aside0 (wrap64 ((p : Int) + 1) = ((p + 1 : Nat) : Int)) := ⟨by rw [wr_in (by omega)]; omega⟩
    by_cases c : ((rdOf ByteArray.empty l p).size : Int) > 8
    · refine ⟨false, Ev.val 1 (fun k => ?_)⟩
      simp only [signalbenchlaw54_small.l0]
      rw [if_pos (by omega), if_pos (by omega), if_pos c]
    · obtain ⟨r, hr⟩ := ih (p + 1) (by omega)
      refine ⟨r, Ev.step (fun k => ?_) hr⟩
      simp only [signalbenchlaw54_small.l0, W3.out]
      rw [if_pos (by omega), if_pos (by omega), if_neg c]
theorem small_ev (l : List ByteArray) : ∃ r, Ev (fun k => signalbenchlaw54_small.f k l) r ∧ (r = true → l.length ≤ 12) := by
  by_cases c : l.length ≤ 12
  · obtain ⟨r, hr⟩ := small_from c l.length 0 (by omega)
    refine ⟨r, Ev.congr (fun k => ?_) hr, fun _ => c⟩
    simp only [signalbenchlaw54_small.f]
    rw [if_neg (by omega)]
    rfl
  · refine ⟨false, Ev.val 0 (fun k => ?_), fun h => by cases h⟩
    simp only [signalbenchlaw54_small.f]
    rw [if_pos (by omega)]
theorem pd_lev (a b : List ByteArray) (i k : Nat) (hi : i ≤ a.length) (hk : k ≤ b.length) : pd a b i k = lev ((Ls a).take i).reverse ((Ls b).take k).reverse := by
  have snoc : ∀ (a : List ByteArray) (i : Nat), i < a.length → ((Ls a).take (i + 1)).reverse = (a.getD i ByteArray.empty).toList :: ((Ls a).take i).reverse := by
    intro a i h
    have h' : i < (Ls a).length := by rw [Ls_length]; exact h
    rw [List.take_succ_eq_append_getElem h', List.reverse_append, List.reverse_singleton, List.singleton_append]
    congr 1
    simp only [Ls, List.getElem_map]
    rw [List.getD_eq_getElem?_getD, List.getElem?_eq_getElem h, Option.getD_some]
  induction i, k using pd.induct a b with
  | case1 k => rw [pd, List.take_zero, List.reverse_nil, lev_nil, List.length_reverse, List.length_take, Ls_length]; omega
  | case2 i => rw [pd, List.take_zero, List.reverse_nil, lev_nil', List.length_reverse, List.length_take, Ls_length]; omega
  | case3 i k h ih => rw [pd, if_pos h, snoc a i (by omega), snoc b k (by omega), h, lev_eq]; exact ih (by omega) (by omega)
  | case4 i k h ih1 ih2 =>
    rw [pd, if_neg h, snoc a i (by omega), snoc b k (by omega), lev_ne h, ih1 (by omega) (by omega), ih2 (by omega) (by omega), snoc a i (by omega), snoc b k (by omega)]
/-- the distance of two lists -/
def ds (a b : List ByteArray) : Nat := lev (Ls a) (Ls b)
theorem sd_zero (a b : List ByteArray) : sd a b 0 0 = ds a b := rfl
theorem dist_eq {a b : List ByteArray} (ha : a.length ≤ 512) (hb : b.length ≤ 512) : align_Distance.f a b = some ((ds a b : Int), 0) := by
  unfold align_Distance.f
  rw [if_pos ⟨ha, hb⟩, pd_lev a b _ _ (Nat.le_refl _) (Nat.le_refl _), List.take_of_length_le (by rw [Ls_length]; omega), List.take_of_length_le (by rw [Ls_length]; omega), lev_rev]
  rfl
theorem dist_no {a b : List ByteArray} (h : ¬ (a.length ≤ 512 ∧ b.length ≤ 512)) : align_Distance.f a b = some (0, 6) := by
  unfold align_Distance.f
  rw [if_neg h]
theorem fits_eq {a b : List ByteArray} (ha : a.length ≤ 512) (hb : b.length ≤ 512) : align_fits.f a b = some true := by
  unfold align_fits.f
  rw [if_pos (by omega), decide_eq_true (by omega)]
theorem fits_no {a b : List ByteArray} (h : ¬ (a.length ≤ 512 ∧ b.length ≤ 512)) : align_fits.f a b = some false := by
  unfold align_fits.f
  by_cases c : (a.length : Int) ≤ 512
  · rw [if_pos c, decide_eq_false (by omega)]
  · rw [if_neg c]
theorem refdist_ev {a b : List ByteArray} (ha : a.length ≤ 512) (hb : b.length ≤ 512) : Ev (fun k => signalbenchref54_Distance.f k a b) ((ds a b : Int), 0) := by
  obtain ⟨R, hR, he⟩ := costs_ev (a := a) (b := b) (by omega) (by omega)
  have hr := hR.2 0 (by omega) (by omega)
  have hRl := hR.1
  have e0 : ((rd_L3 R 0).length : Int) = b.length + 1 := by
    have := hr.1
    simp only [rd_L3, Int.toNat_zero]
    omega
  have v0 : rd (rd_L3 R 0) 0 = ds a b := by
    have := hr.2 0 (by omega) (by omega)
    rw [← sd_zero, ← this]
    simp [rd, rd_L3]
  refine Ev.congr (g := fun k => signalbenchref54_Distance.f k a b) (f := fun k => (signalbenchref54_costs.f k a b).bind fun t217 => (if 0 < (t217.length : Int) then (if 0 < ((rd_L3 t217 0).length : Int) then (some (rd (rd_L3 t217 0) 0, (0 : Int))) else (none)) else (none))) (fun k => ?_) (Ev.bind he ?_)
  · simp only [signalbenchref54_Distance.f]
    rw [if_neg (by omega), if_neg (by omega)]
  · refine Ev.val 0 (fun k => ?_)
    rw [if_pos (by omega), if_pos (by omega), v0]
theorem pairs_ev {a b : List ByteArray} (ha : a.length ≤ 512) (hb : b.length ≤ 512) : ∃ P, PA a b 0 0 P (ds a b) ∧ Ev (fun k => align_Pairs.f k a b) (P, 0) ∧ Ev (fun k => signalbenchref54_Pairs.f k a b) (P, 0) := by
  obtain ⟨R, hR, he⟩ := rests_ev (a := a) (b := b) (by omega) (by omega)
  obtain ⟨U, hU, hu⟩ := costs_ev (a := a) (b := b) (by omega) (by omega)
  obtain ⟨P, hP, h1, h2⟩ := pairs_from (a := a) (b := b) (by omega) (by omega) hR hU _ 0 0 (by omega) (by omega) rfl
  refine ⟨P, hP, ?_, ?_⟩
  · refine Ev.congr (f := fun k => (align_rests.f k a b).bind fun t136 => (align_Pairs.l0 k a b t136 ([] : List (S43)) 0 0)) (fun k => ?_) (Ev.bind he (h1 [] (by simp)))
    simp only [align_Pairs.f]
    rw [fits_eq ha hb, Option.bind_some, if_pos rfl]
  · refine Ev.congr (f := fun k => signalbenchref54_Pairs.j0 k a b (decide ((b.length : Int) > 512))) (fun k => ?_) (Ev.step (f := fun k => (signalbenchref54_costs.f k a b).bind fun t222 => (signalbenchref54_Pairs.l0 k a b t222 (([] : List (S43))) 0 0)) (fun k => ?_) (Ev.bind hu (h2 [] (by simp))))
    · simp only [signalbenchref54_Pairs.f]
      rw [if_neg (by omega)]
    · simp only [signalbenchref54_Pairs.j0]
      rw [fal (decide_eq_false (by omega))]
theorem pairs_no {a b : List ByteArray} (h : ¬ (a.length ≤ 512 ∧ b.length ≤ 512)) : Ev (fun k => align_Pairs.f k a b) ([], 6) := by
  refine Ev.val 0 (fun k => ?_)
  simp only [align_Pairs.f]
  rw [fits_no h, Option.bind_some, if_neg (by simp)]
end Go.Proofs.Ytbkncndagheijaa.H
