/- A part of the plain laws of the search (layer 47); no condition. -/
import Derived.Test.YtgdjiphljadlcaaKQa
import Derived.Test.YtgdjiphljadlcaaKQb
import Derived.Test.YtgdjiphljadlcaaKQc
import Derived.Test.YtgdjiphljadlcaaKQd
import Derived.Test.YtgdjiphljadlcaaKQe
import Derived.Test.YtgdjiphljadlcaaKQf
import Derived.Test.YtgdjiphljadlcaaKQg
import Derived.Test.YtgdjiphljadlcaaKEnds
import Derived.Test.YtgdjiphljadlcaaK0
import Derived.Test.YtgdjiphljadlcaaK15
namespace Go.Proofs.Ytgdjiphljadlcaa.K
open Go.RowKit Go.Proofs.YtgdjiphljadlcaaW.PrintWords Go.Proofs.YtgdjiphljadlcaaW.PrintLast Go.Proofs.YtgdjiphljadlcaaW.PrintMore
set_option linter.unusedSimpArgs false
theorem awake_is : signalbenchlaw47_awake.f = some true := rfl
theorem awake_ev : Ev (fun _ => (signalbenchlaw47_awake.f).bind fun t => (some t)) true := by
  rw [awake_is]
  exact Ev.now _
theorem trB_len (A : List S50) (l : List S46) (x : Int) : (trB A l x).1.length ≤ 32 := by
  unfold trB
  split
  · rename_i h
    show (tab A.length _).length ≤ 32
    rw [tab_len]
    exact (chk_len h.1).2
  · exact Nat.zero_le _
theorem idxT_mem : ∀ (l : List Bool) (i : Nat) (p : Int), p ∈ idxT l i ↔ ∃ q : Nat, p = ((i + q : Nat) : Int) ∧ q < l.length ∧ l.getD q false = true
  | [], i, p => by simp [idxT]
  | b :: l, i, p => by
    have ih := idxT_mem l (i + 1) p
    have tail : (∃ q : Nat, p = ((i + 1 + q : Nat) : Int) ∧ q < l.length ∧ l.getD q false = true) ↔ ∃ q : Nat, 0 < q ∧ p = ((i + q : Nat) : Int) ∧ q < (b :: l).length ∧ (b :: l).getD q false = true := by
      constructor
      · rintro ⟨q, h1, h2, h3⟩
        exact ⟨q + 1, by omega, by rw [h1]; congr 1; omega, by simpa using h2, by simpa using h3⟩
      · rintro ⟨q, h0, h1, h2, h3⟩
        obtain ⟨r, rfl⟩ : ∃ r, q = r + 1 := ⟨q - 1, by omega⟩
        exact ⟨r, by rw [h1]; congr 1; omega, by simpa using h2, by simpa using h3⟩
    rw [tail] at ih
    cases b
    · rw [idxT, if_neg (by decide), ih]
      constructor
      · rintro ⟨q, _, h⟩
        exact ⟨q, h⟩
      · rintro ⟨q, h1, h2, h3⟩
        refine ⟨q, ?_, h1, h2, h3⟩
        cases q with
        | zero => simp at h3
        | succ q => omega
    · rw [idxT, if_pos rfl, List.mem_cons, ih]
      constructor
      · rintro (h | ⟨q, _, h⟩)
        · exact ⟨0, by simpa using h, by simp, by simp⟩
        · exact ⟨q, h⟩
      · rintro ⟨q, h1, h2, h3⟩
        cases q with
        | zero => exact Or.inl (by simpa using h1)
        | succ q => exact Or.inr ⟨q + 1, by omega, h1, h2, h3⟩
theorem fin_mem (A : List S50) (l : List S46) (hc : chkErr A = 0) (p : Int) : p ∈ finB A l ↔ ∃ q : Nat, p = (q : Int) ∧ q < l.length ∧ gN A l (A.length - 1) q = true := by
  rw [finB, if_pos hc, idxT_mem, tab_len]
  constructor
  · rintro ⟨q, h1, h2, h3⟩
    rw [tab_getD _ _ _ _ h2] at h3
    exact ⟨q, by simpa using h1, h2, h3⟩
  · rintro ⟨q, h1, h2, h3⟩
    exact ⟨q, by simpa using h1, h2, by rw [tab_getD _ _ _ _ h2]; exact h3⟩
theorem firstFrom_in (x : Int) : ∀ l : List Int, firstFrom x l = -1 ∨ firstFrom x l ∈ l
  | [] => Or.inl rfl
  | p :: l => by
    rw [firstFrom]
    by_cases c : x ≤ p
    · rw [if_pos c]; exact Or.inr (by simp)
    · rw [if_neg c]
      rcases firstFrom_in x l with h | h
      · exact Or.inl h
      · exact Or.inr (by simp [h])
theorem next_self (A : List S50) (l : List S46) (hc : chkErr A = 0) (q : Nat) (hq : q < l.length) (hg : gN A l (A.length - 1) q = true) : firstFrom (q : Int) (finB A l) = (q : Int) := by
  rw [finB, if_pos hc]
  obtain ⟨b, hb⟩ := idxT_take (q + 1) (tab l.length (gN A l (A.length - 1))) 0
  have e := idxT_snoc' (tab l.length (gN A l (A.length - 1))) q (by rw [tab_len]; exact hq)
  rw [tab_getD _ _ _ _ hq, if_pos hg] at e
  rw [hb, e, List.append_assoc, List.singleton_append]
  refine firstFrom_mid _ _ _ (Int.le_refl _) _ fun p hp => ?_
  obtain ⟨r, h1, h2, _⟩ := (idxT_mem _ _ _).1 hp
  rw [List.length_take] at h2
  omega
theorem next_only (A : List S50) (l : List S46) (x : Int) (hx : 0 ≤ x) (h : firstFrom x (finB A l) = x) : chkErr A = 0 ∧ ∃ q : Nat, x = (q : Int) ∧ q < l.length ∧ gN A l (A.length - 1) q = true := by
  rcases firstFrom_in x (finB A l) with e | e
  · omega
  · rw [h] at e
    by_cases c : chkErr A = 0
    · exact ⟨c, (fin_mem A l c x).1 e⟩
    · rw [finB, if_neg c] at e
      cases e
theorem matG_iff (A : List S50) (l : List S46) (pl : List Int) : ∀ d j, matG A l pl d j = true ↔ ∀ i, j ≤ i → i < j + d → matS A l pl i = true
  | 0, j => by simp only [matG, true_iff]; intro i h1 h2; omega
  | d + 1, j => by
    rw [matG, Bool.and_eq_true, matG_iff A l pl d (j + 1)]
    constructor
    · rintro ⟨h1, h2⟩ i a b
      by_cases e : i = j
      · subst e; exact h1
      · exact h2 i (by omega) (by omega)
    · intro h
      exact ⟨h j (by omega) (by omega), fun i a b => h i (by omega) (by omega)⟩
theorem gN_sat {A : List S50} {l : List S46} {j p : Nat} (h : gN A l j p = true) : sat (rd_T50 A (j : Int)).f0 (rd_T46 l p) = true := by
  cases j with
  | zero => exact h
  | succ j => rw [gN, Bool.and_eq_true] at h; exact h.1
theorem trace_get (A : List S50) (l : List S46) (q i : Nat) (hi : i < A.length) : rd (trace_ A l q) (i : Int) = (back A l q (A.length - 1 - i) : Int) := by
  rw [trace_, rd_tab _ _ _ hi]
  unfold trS
  rw [if_pos (Nat.zero_le _)]
theorem trace_len (A : List S50) (l : List S46) (q : Nat) : (trace_ A l q).length = A.length := tab_len _ _
theorem trace_match (A : List S50) (l : List S46) (hc : chkErr A = 0) (q : Nat) (hq : q < l.length) (hg : gN A l (A.length - 1) q = true) : matB A l (trace_ A l q) = true := by
  have h := chk_len hc
  rw [matB, decide_eq_true hc, trace_len, decide_eq_true rfl, Bool.true_and, Bool.true_and, matG_iff]
  intro i _ hi
  rw [Nat.zero_add] at hi
  obtain ⟨g1, g2⟩ := back_ok A l q hq hg (A.length - 1 - i) (by omega)
  rw [show A.length - 1 - (A.length - 1 - i) = i by omega] at g1
  rw [matS, trace_get A l q i hi, decide_eq_true (by omega), gN_sat g1, Bool.true_and, Bool.true_and]
  by_cases c : i = 0
  · rw [decide_eq_true c, Bool.true_or]
  · rw [decide_eq_false c, Bool.false_or, trace_get A l q (i - 1) (by omega)]
    obtain ⟨p1, p2⟩ := back_pos A l q hq hg (A.length - 1 - i) (by omega)
    rw [show A.length - 1 - (A.length - 1 - i) = i by omega, show A.length - 1 - i + 1 = A.length - 1 - (i - 1) by omega] at p1
    rw [show A.length - 1 - (A.length - 1 - i) = i by omega] at p2
    obtain ⟨r, _, r2, _, r4, _⟩ := prevQ_is _ _ _ _ _ p2
    have e : (back A l q (A.length - 1 - (i - 1)) : Int) = (r : Int) := p1.symm.trans r2
    rw [e, Int.toNat_natCast, Int.toNat_natCast]
    exact r4
def ascB (l : List S46) : Nat → Nat → Bool
  | 0, _ => true
  | d + 1, i => decide (0 ≤ (rd_T46 l i).f1 ∧ (rd_T46 l i).f1 ≤ 1099511627776 ∧ (i = 0 ∨ (rd_T46 l ((i - 1 : Nat) : Int)).f1 ≤ (rd_T46 l i).f1)) && ascB l d (i + 1)
def ascL (l : List S46) : Bool := decide (l.length ≤ 200) && ascB l l.length 0
theorem asc_one (l : List S46) : ∀ d i, ascB l d i = true → ∀ a, i ≤ a → a < i + d → 0 ≤ (rd_T46 l a).f1 ∧ (rd_T46 l a).f1 ≤ 1099511627776 ∧ (a = 0 ∨ (rd_T46 l ((a - 1 : Nat) : Int)).f1 ≤ (rd_T46 l a).f1)
  | 0, i, _, a, h1, h2 => by omega
  | d + 1, i, h, a, h1, h2 => by
    rw [ascB, Bool.and_eq_true, decide_eq_true_eq] at h
    by_cases e : a = i
    · subst e; exact h.1
    · exact asc_one l d (i + 1) h.2 a (by omega) (by omega)
theorem asc_le (l : List S46) (h : ascL l = true) : ∀ d a, a + d < l.length → (rd_T46 l a).f1 ≤ (rd_T46 l ((a + d : Nat) : Int)).f1
  | 0, a, _ => Int.le_refl _
  | d + 1, a, hd => by
    have ih := asc_le l h d a (by omega)
    unfold ascL at h
    rw [Bool.and_eq_true] at h
    have h1 := asc_one l _ _ h.2 (a + (d + 1)) (by omega) (by omega)
    rw [show a + (d + 1) - 1 = a + d by omega] at h1
    omega
/-- a place of a match is one at which a match of the steps up to it ends -/
theorem mat_gN (A : List S50) (l : List S46) (pl : List Int) (h : matB A l pl = true) : ∀ i, i < A.length → (0 ≤ rd pl i ∧ rd pl i < (l.length : Int)) ∧ gN A l i (rd pl i).toNat = true
  | i, hi => by
    have h' := h
    rw [matB, Bool.and_eq_true, Bool.and_eq_true, decide_eq_true_eq, decide_eq_true_eq, matG_iff] at h'
    have hs := h'.2 i (Nat.zero_le _) (by omega)
    rw [matS, Bool.and_eq_true, Bool.and_eq_true, decide_eq_true_eq] at hs
    refine ⟨hs.1.1, ?_⟩
    have ep : ((rd pl i).toNat : Int) = rd pl i := Int.toNat_of_nonneg hs.1.1.1
    cases i with
    | zero =>
      rw [gN, ep]
      exact hs.1.2
    | succ i =>
      have ih := mat_gN A l pl h i (by omega)
      rw [gN, ep, hs.1.2, Bool.true_and, decide_eq_true_eq, prevQ_pos]
      have hf := hs.2
      rw [decide_eq_false (show ¬ i + 1 = 0 by omega), Bool.false_or, Nat.add_sub_cancel] at hf
      refine ⟨(rd pl i).toNat, ?_, ih.2, hf⟩
      unfold fol at hf
      rw [Bool.and_eq_true, Bool.and_eq_true, decide_eq_true_eq] at hf
      exact hf.1.1
/-- no place of a match is later than that of the trace -/
theorem back_last (A : List S50) (l : List S46) (pl : List Int) (ha : ascL l = true) (h : matB A l pl = true) (q : Nat) (hq : q < l.length) (hg : gN A l (A.length - 1) q = true) (he : rd pl ((A.length - 1 : Nat) : Int) = (q : Int)) : ∀ d, d ≤ A.length - 1 → rd pl ((A.length - 1 - d : Nat) : Int) ≤ (back A l q d : Int)
  | 0, _ => by rw [Nat.sub_zero, he]; exact Int.le_refl _
  | d + 1, hd => by
    have ih := back_last A l pl ha h q hq hg he d (by omega)
    obtain ⟨g1, g2⟩ := back_ok A l q hq hg d (by omega)
    obtain ⟨p1, p2⟩ := back_pos A l q hq hg d (by omega)
    obtain ⟨r, r1, r2, r3, r4, r5⟩ := prevQ_is _ _ _ _ _ p2
    have hr : back A l q (d + 1) = r := by
      have := p1.symm.trans r2
      omega
    obtain ⟨i, hi⟩ : ∃ i, A.length - 1 - d = i + 1 := ⟨A.length - 1 - d - 1, by omega⟩
    have hA : i + 1 < A.length := by omega
    rw [hi] at r3 r4 r5
    rw [Nat.add_sub_cancel] at r3
    simp only [Nat.add_sub_cancel] at r5
    rw [show A.length - 1 - (d + 1) = i by omega, hr]
    rw [hi] at ih
    obtain ⟨b1, b2⟩ := mat_gN A l pl h i (by omega)
    obtain ⟨e1, e2⟩ := mat_gN A l pl h (i + 1) hA
    have h' := h
    rw [matB, Bool.and_eq_true, Bool.and_eq_true, decide_eq_true_eq, decide_eq_true_eq, matG_iff] at h'
    have hs := h'.2 (i + 1) (Nat.zero_le _) (by omega)
    rw [matS, Bool.and_eq_true, Bool.and_eq_true, decide_eq_true_eq, decide_eq_false (show ¬ i + 1 = 0 by omega), Bool.false_or, Nat.add_sub_cancel] at hs
    have hf := hs.2
    unfold fol at hf
    rw [Bool.and_eq_true, Bool.and_eq_true, decide_eq_true_eq] at hf
    have hlt := hf.1.1
    by_cases c : rd pl (i : Int) ≤ (r : Int)
    · exact c
    exfalso
    obtain ⟨P, hP⟩ : ∃ P : Nat, rd pl (i : Int) = (P : Int) := ⟨(rd pl i).toNat, by omega⟩
    rw [hP, Int.toNat_natCast] at b2
    have hPX : P < back A l q d := by omega
    refine r5 P (by omega) hPX ⟨b2, ?_⟩
    unfold fol at r4 ⊢
    rw [Bool.and_eq_true, Bool.and_eq_true, decide_eq_true_eq] at r4 ⊢
    refine ⟨⟨hPX, ?_⟩, ?_⟩
    · have hw := r4.1.2
      unfold within at hw ⊢
      simp only [Bool.or_eq_true, decide_eq_true_eq, Bool.not_eq_true', decide_eq_false_iff_not] at hw ⊢
      rcases hw with hw | hw
      · exact Or.inl hw
      · right
        have t1 := gN_at r3
        have t2 := gN_at b2
        rw [hi] at g1
        have t3 := gN_at g1
        have t4 := asc_le l ha (P - r) r (by omega)
        rw [show r + (P - r) = P by omega] at t4
        rw [wr_in (by omega)] at hw
        rw [wr_in (by omega)]
        omega
    · have b5 := r4.2
      unfold clear_ at b5 ⊢
      rw [List.all_eq_true] at b5 ⊢
      intro o ho
      refine b5 o ?_
      rw [show (l.take (back A l q d)).drop (P + 1) = ((l.take (back A l q d)).drop (r + 1)).drop (P - r) by rw [List.drop_drop]; congr 1; omega] at ho
      exact List.mem_of_mem_drop ho
theorem rd_take (l : List S46) (n p : Nat) (hp : p < n) (hn : n ≤ l.length) : rd_T46 (l.take n) (p : Int) = rd_T46 l (p : Int) := by
  rw [rd46 _ p (by rw [List.length_take]; omega), rd46 l p (by omega), List.getElem_take]
theorem fol_take (s : S50) (l : List S46) (n q p : Nat) (hp : p < n) (hn : n ≤ l.length) : fol s (l.take n) q p = fol s l q p := by
  unfold fol
  by_cases c : q < p
  · have e1 : within s (l.take n) q p = within s l q p := by
      unfold within
      rw [rd_take l n p hp hn, rd_take l n q (by omega) hn]
    rw [e1, List.take_take, Nat.min_eq_left (by omega)]
  · rw [decide_eq_false c]
    rfl
theorem prevQ_take (s : S50) (l : List S46) (g g' : Nat → Bool) (n p : Nat) (hp : p < n) (hn : n ≤ l.length) (hg : ∀ q, q < p → g q = g' q) : ∀ m, m ≤ p → prevQ s (l.take n) g p m = prevQ s l g' p m
  | 0, _ => rfl
  | m + 1, hm => by rw [prevQ, prevQ, hg m (by omega), fol_take s l n m p hp hn, prevQ_take s l g g' n p hp hn hg m (by omega)]
theorem gN_take (A : List S50) (l : List S46) (n : Nat) (hn : n ≤ l.length) : ∀ j p, p < n → gN A (l.take n) j p = gN A l j p
  | 0, p, hp => by rw [gN, gN, rd_take l n p hp hn]
  | j + 1, p, hp => by rw [gN, gN, rd_take l n p hp hn, prevQ_take _ l _ (gN A l j) n p hp hn (fun q hq => gN_take A l n hn j q (by omega)) p (Nat.le_refl _)]
theorem idxT_app : ∀ (a b : List Bool) (i : Nat), idxT (a ++ b) i = idxT a i ++ idxT b (i + a.length)
  | [], b, i => rfl
  | c :: a, b, i => by
    have ih := idxT_app a b (i + 1)
    have e : i + 1 + a.length = i + (c :: a).length := by rw [List.length_cons]; omega
    rw [e] at ih
    cases c <;> simp only [List.cons_append, idxT, if_true, Bool.false_eq_true, if_false, ih]
theorem fin_take (A : List S50) (l : List S46) (n : Nat) (hn : n ≤ l.length) : finB A (l.take n) = (finB A l).filter fun p => decide (p < (n : Int)) := by
  unfold finB
  by_cases c : chkErr A = 0
  · rw [if_pos c, if_pos c, List.length_take, Nat.min_eq_left hn]
    have e1 : tab n (gN A (l.take n) (A.length - 1)) = (tab l.length (gN A l (A.length - 1))).take n := by
      refine List.ext_getElem (by simp [tab]; omega) fun i h1 h2 => ?_
      rw [List.getElem_take]
      simp only [tab, List.getElem_map, List.getElem_range]
      exact gN_take A l n hn _ i (by simpa [tab] using h1)
    obtain ⟨T, hT⟩ : ∃ T, tab l.length (gN A l (A.length - 1)) = T := ⟨_, rfl⟩
    rw [e1, hT]
    have hTl : T.length = l.length := by rw [← hT, tab_len]
    have e2 : idxT T 0 = idxT (T.take n) 0 ++ idxT (T.drop n) (0 + (T.take n).length) := by rw [← idxT_app, List.take_append_drop]
    rw [e2, List.filter_append]
    have e3 : (idxT (T.take n) 0).filter (fun p => decide (p < (n : Int))) = idxT (T.take n) 0 := by
      rw [List.filter_eq_self]
      intro p hp
      obtain ⟨q, h1, h2, _⟩ := (idxT_mem _ _ _).1 hp
      rw [List.length_take] at h2
      exact decide_eq_true (by omega)
    have e4 : (idxT (T.drop n) (0 + (T.take n).length)).filter (fun p => decide (p < (n : Int))) = [] := by
      rw [List.filter_eq_nil_iff]
      intro p hp
      obtain ⟨q, h1, h2, _⟩ := (idxT_mem _ _ _).1 hp
      rw [List.length_take] at h1
      simp
      omega
    rw [e3, e4, List.append_nil]
  · rw [if_neg c, if_neg c]
    rfl
end Go.Proofs.Ytgdjiphljadlcaa.K
