/- A part of the plain laws of the search (layer 47); no condition. -/
import Derived.Test.YtgdjiphljadlcaaKQa
import Derived.Test.YtgdjiphljadlcaaKQb
import Derived.Test.YtgdjiphljadlcaaKQc
import Derived.Test.YtgdjiphljadlcaaKQd
import Derived.Test.YtgdjiphljadlcaaK0
import Derived.Test.YtgdjiphljadlcaaK8
import Derived.Test.YtgdjiphljadlcaaK12
import Derived.Test.YtgdjiphljadlcaaK13
namespace Go.Proofs.Ytgdjiphljadlcaa.K
open Go.RowKit Go.Proofs.YtgdjiphljadlcaaW.PrintWords Go.Proofs.YtgdjiphljadlcaaW.PrintLast Go.Proofs.YtgdjiphljadlcaaW.PrintMore
set_option linter.unusedSimpArgs false
/-- a list by its places -/
def tab {α : Type} (n : Nat) (g : Nat → α) : List α := (List.range n).map g
theorem tab_len {α : Type} (n : Nat) (g : Nat → α) : (tab n g).length = n := by simp [tab]
theorem tab_getD {α : Type} (n : Nat) (g : Nat → α) (d : α) (i : Nat) (h : i < n) : (tab n g).getD i d = g i := by
  rw [List.getD_eq_getElem?_getD, List.getElem?_eq_getElem (by rw [tab_len]; exact h), Option.getD_some]
  simp [tab]
theorem tab_set {α : Type} (n : Nat) (g g' : Nat → α) (j : Nat) (v : α) (h : ∀ i, i < n → g' i = if i = j then v else g i) : (tab n g).set j v = tab n g' := by
  refine List.ext_getElem (by simp [tab]) fun i h1 h2 => ?_
  have hi : i < n := by simpa [tab] using h2
  rw [List.getElem_set]
  simp only [tab, List.getElem_map, List.getElem_range, h i hi]
  by_cases c : i = j
  · rw [if_pos c, if_pos c.symm]
  · rw [if_neg c, if_neg (fun e => c e.symm)]
theorem tab_congr {α : Type} (n : Nat) (g g' : Nat → α) (h : ∀ i, i < n → g i = g' i) : tab n g = tab n g' := by
  refine List.ext_getElem (by simp [tab]) fun i h1 h2 => ?_
  simp only [tab, List.getElem_map, List.getElem_range]
  exact h i (by simpa [tab] using h2)
theorem tab_snoc {α : Type} (n : Nat) (g : Nat → α) : tab n g ++ [g n] = tab (n + 1) g := by simp [tab, List.range_succ]
/-- the first i places of a row; the rest false -/
def part (n : Nat) (g : Nat → Bool) (i : Nat) : List Bool := tab n fun p => decide (p < i) && g p
theorem part_zero (n : Nat) (g : Nat → Bool) : part n g 0 = List.replicate n false := by
  refine List.ext_getElem (by simp [part, tab]) fun i h1 h2 => ?_
  simp [part, tab]
theorem part_full (n : Nat) (g : Nat → Bool) : part n g n = tab n g := tab_congr _ _ _ fun i h => by simp [h]
theorem part_set (n : Nat) (g : Nat → Bool) (i : Nat) (b : Bool) (hb : b = g i) : (part n g i).set i b = part n g (i + 1) := by
  refine tab_set _ _ _ _ _ fun p _ => ?_
  by_cases c : p = i
  · subst c; simp [hb]
  · rw [if_neg c]
    by_cases c2 : p < i
    · simp [c2, Nat.lt_succ_of_lt c2]
    · rw [decide_eq_false c2, decide_eq_false (by omega)]
theorem part_skip (n : Nat) (g : Nat → Bool) (i : Nat) (hb : g i = false) : part n g i = part n g (i + 1) := by
  refine tab_congr _ _ _ fun p _ => ?_
  by_cases c : p = i
  · subst c; simp [hb]
  · by_cases c2 : p < i
    · simp [c2, Nat.lt_succ_of_lt c2]
    · rw [decide_eq_false c2, decide_eq_false (by omega)]
/-- the last place, of the first n, from which a step may go on to p; or -1 -/
def prevQ (s : S50) (l : List S46) (g : Nat → Bool) (p : Nat) : Nat → Int
  | 0 => -1
  | q + 1 => if g q = true ∧ fol s l q p = true then (q : Int) else prevQ s l g p q
theorem prevQ_pos (s : S50) (l : List S46) (g : Nat → Bool) (p : Nat) : ∀ n, 0 ≤ prevQ s l g p n ↔ ∃ q, q < n ∧ g q = true ∧ fol s l q p = true
  | 0 => by simp [prevQ]
  | n + 1 => by
    rw [prevQ]
    by_cases c : g n = true ∧ fol s l n p = true
    · rw [if_pos c]
      exact ⟨fun _ => ⟨n, by omega, c⟩, fun _ => by omega⟩
    · rw [if_neg c, prevQ_pos s l g p n]
      constructor
      · rintro ⟨q, h, h2⟩
        exact ⟨q, by omega, h2⟩
      · rintro ⟨q, h, h2⟩
        by_cases e : q = n
        · subst e; exact absurd h2 c
        · exact ⟨q, by omega, h2⟩
theorem prevQ_is (s : S50) (l : List S46) (g : Nat → Bool) (p : Nat) : ∀ n, 0 ≤ prevQ s l g p n → ∃ q, q < n ∧ prevQ s l g p n = (q : Int) ∧ g q = true ∧ fol s l q p = true ∧ ∀ m, q < m → m < n → ¬ (g m = true ∧ fol s l m p = true)
  | 0, h => by simp [prevQ] at h
  | n + 1, h => by
    rw [prevQ] at h ⊢
    by_cases c : g n = true ∧ fol s l n p = true
    · rw [if_pos c]
      exact ⟨n, by omega, rfl, c.1, c.2, fun m h1 h2 => by omega⟩
    · rw [if_neg c] at h ⊢
      obtain ⟨q, h1, h2, h3, h4, h5⟩ := prevQ_is s l g p n h
      refine ⟨q, by omega, h2, h3, h4, fun m hm hn => ?_⟩
      by_cases e : m = n
      · subst e; exact c
      · exact h5 m hm (by omega)
theorem prevQ_neg (s : S50) (l : List S46) (g : Nat → Bool) (p : Nat) : ∀ n, prevQ s l g p n = -1 ∨ 0 ≤ prevQ s l g p n
  | 0 => Or.inl rfl
  | n + 1 => by
    rw [prevQ]
    by_cases c : g n = true ∧ fol s l n p = true
    · rw [if_pos c]; omega
    · rw [if_neg c]; exact prevQ_neg s l g p n
/-- does a match of the steps up to j end at p? -/
def gN (A : List S50) (l : List S46) : Nat → Nat → Bool
  | 0, p => sat (rd_T50 A 0).f0 (rd_T46 l p)
  | j + 1, p => sat (rd_T50 A ((j + 1 : Nat) : Int)).f0 (rd_T46 l p) && decide (0 ≤ prevQ (rd_T50 A ((j + 1 : Nat) : Int)) l (gN A l j) p p)
theorem sat_at {c : S42} {o : S46} (h : sat c o = true) : 0 ≤ o.f1 ∧ o.f1 ≤ 1099511627776 := by
  unfold sat at h
  simp only [Bool.and_eq_true, decide_eq_true_eq] at h
  exact h.1
theorem gN_at {A : List S50} {l : List S46} {j p : Nat} (h : gN A l j p = true) : 0 ≤ (rd_T46 l p).f1 ∧ (rd_T46 l p).f1 ≤ 1099511627776 := by
  cases j with
  | zero => exact sat_at h
  | succ j =>
    rw [gN, Bool.and_eq_true] at h
    exact sat_at h.1
theorem rdOf_tab (n : Nat) (g : Nat → Bool) (i : Nat) (h : i < n) : rdOf false (tab n g) (i : Int) = g i := by
  unfold rdOf
  rw [Int.toNat_natCast, tab_getD _ _ _ _ h]
/-- what the code's search remembers: the greatest time of the places that can still be continued -/
def Live (s : S50) (l : List S46) (g : Nat → Bool) (i : Nat) (x : Int) : Prop :=
  (x = -1 ∨ ∃ q, q < i ∧ g q = true ∧ clear_ s ((l.take i).drop (q + 1)) = true ∧ (rd_T46 l q).f1 = x) ∧ ∀ q, q < i → g q = true → clear_ s ((l.take i).drop (q + 1)) = true → (rd_T46 l q).f1 ≤ x
theorem clear_snoc (s : S50) (l : List S46) (i q : Nat) (hi : i < l.length) (hq : q < i) : clear_ s ((l.take (i + 1)).drop (q + 1)) = (clear_ s ((l.take i).drop (q + 1)) && !forb s (rd_T46 l i)) := by
  rw [rd46 l i hi, List.take_succ_eq_append_getElem hi, List.drop_append_of_le_length (by rw [List.length_take]; omega)]
  unfold clear_
  rw [List.all_append]
  simp
theorem clear_self (s : S50) (l : List S46) (i : Nat) : clear_ s ((l.take (i + 1)).drop (i + 1)) = true := by
  rw [List.drop_eq_nil_of_le (by rw [List.length_take]; omega)]
  rfl
theorem live_next {s : S50} {l : List S46} {g : Nat → Bool} {i : Nat} {x : Int} (hi : i < l.length) (hg : ∀ q, g q = true → 0 ≤ (rd_T46 l q).f1 ∧ (rd_T46 l q).f1 ≤ 1099511627776) (h : Live s l g i x) (y : Int)
    (hy : y = if forb s (rd_T46 l i) = true then -1 else x) : Live s l g (i + 1) (if g i = true then mx y (rd_T46 l i).f1 else y) := by
  have h1 : ∀ q, q < i → g q = true → clear_ s ((l.take (i + 1)).drop (q + 1)) = true → (rd_T46 l q).f1 ≤ y := fun q hq hgq hc => by
    rw [clear_snoc s l i q hi hq, Bool.and_eq_true] at hc
    have hf : forb s (rd_T46 l i) = false := by simpa using hc.2
    rw [hy, hf, if_neg (by decide)]
    exact h.2 q hq hgq hc.1
  have h2 : y = -1 ∨ ∃ q, q < i ∧ g q = true ∧ clear_ s ((l.take (i + 1)).drop (q + 1)) = true ∧ (rd_T46 l q).f1 = y := by
    by_cases c : forb s (rd_T46 l i) = true
    · rw [if_pos c] at hy; exact Or.inl hy
    · rw [if_neg c] at hy
      have c' : forb s (rd_T46 l i) = false := by simpa using c
      rcases h.1 with e | ⟨q, e1, e2, e3, e4⟩
      · exact Or.inl (hy.trans e)
      · exact Or.inr ⟨q, e1, e2, by rw [clear_snoc s l i q hi e1, e3, c']; rfl, e4.trans hy.symm⟩
  by_cases c : g i = true
  · rw [if_pos c]
    have hm : y ≤ mx y (rd_T46 l i).f1 ∧ (rd_T46 l i).f1 ≤ mx y (rd_T46 l i).f1 ∧ (mx y (rd_T46 l i).f1 = y ∨ mx y (rd_T46 l i).f1 = (rd_T46 l i).f1) := by unfold mx; split <;> omega
    have hgi := hg i c
    constructor
    · rcases hm.2.2 with e | e
      · rcases h2 with e2 | ⟨q, a1, a2, a3, a4⟩
        · exfalso; omega
        · exact Or.inr ⟨q, by omega, a2, a3, a4.trans e.symm⟩
      · exact Or.inr ⟨i, by omega, c, clear_self s l i, e.symm⟩
    · intro q hq hgq hc
      by_cases e : q = i
      · subst e; exact hm.2.1
      · exact Int.le_trans (h1 q (by omega) hgq hc) hm.1
  · rw [if_neg c]
    constructor
    · rcases h2 with e2 | ⟨q, a1, a2, a3, a4⟩
      · exact Or.inl e2
      · exact Or.inr ⟨q, by omega, a2, a3, a4⟩
    · intro q hq hgq hc
      by_cases e : q = i
      · subst e; exact absurd hgq c
      · exact h1 q (by omega) hgq hc
theorem live_has {s : S50} {l : List S46} {g : Nat → Bool} {i : Nat} {x : Int} (hg : ∀ q, g q = true → 0 ≤ (rd_T46 l q).f1 ∧ (rd_T46 l q).f1 ≤ 1099511627776) (h : Live s l g i x) (hi : 0 ≤ (rd_T46 l i).f1 ∧ (rd_T46 l i).f1 ≤ 1099511627776) :
    decide (0 ≤ prevQ s l g i i) = (decide (0 ≤ x) && (decide (s.f1 = 0) || decide (wrap64 ((rd_T46 l i).f1 - x) ≤ s.f1))) := by
  have key : 0 ≤ prevQ s l g i i ↔ (0 ≤ x ∧ (s.f1 = 0 ∨ wrap64 ((rd_T46 l i).f1 - x) ≤ s.f1)) := by
    rw [prevQ_pos]
    constructor
    · rintro ⟨q, hq, hgq, hf⟩
      unfold fol at hf
      simp only [Bool.and_eq_true, decide_eq_true_eq] at hf
      have ha := hg q hgq
      have hx := h.2 q hq hgq hf.2
      refine ⟨by omega, ?_⟩
      have hw := hf.1.2
      unfold within at hw
      simp only [Bool.or_eq_true, decide_eq_true_eq, Bool.not_eq_true', decide_eq_false_iff_not] at hw
      rcases hw with hw | hw
      · exact Or.inl hw
      · right
        have hx2 : x = -1 ∨ (0 ≤ x ∧ x ≤ 1099511627776) := by
          rcases h.1 with e | ⟨q', _, e2, _, e4⟩
          · exact Or.inl e
          · right; have := hg q' e2; omega
        rw [wr_in (by omega)] at hw
        rw [wr_in (by omega)]
        omega
    · rintro ⟨hx, hw⟩
      rcases h.1 with e | ⟨q, e1, e2, e3, e4⟩
      · omega
      · refine ⟨q, e1, e2, ?_⟩
        unfold fol within
        rw [decide_eq_true e1, e3, Bool.true_and, Bool.and_true]
        simp only [Bool.or_eq_true, decide_eq_true_eq, Bool.not_eq_true', decide_eq_false_iff_not, e4]
        rcases hw with hw | hw
        · exact Or.inl hw
        · right; omega
  rw [Bool.eq_iff_iff]
  simp only [Bool.and_eq_true, Bool.or_eq_true, decide_eq_true_eq]
  exact key
/-- one row of the code's search -/
theorem reach_l0 (s : S50) (l : List S46) (hl : l.length ≤ 1000000) (g : Nat → Bool) (hg : ∀ q, g q = true → 0 ≤ (rd_T46 l q).f1 ∧ (rd_T46 l q).f1 ≤ 1099511627776) (G : Nat → Bool)
    (hG : ∀ p, G p = (sat s.f0 (rd_T46 l p) && decide (0 ≤ prevQ s l g p p))) : ∀ d i x, i + d = l.length → Live s l g i x →
    Ev (fun k => search_reach.l0 k (tab l.length g) (part l.length G i) x l (l.length : Int) i s.f0.f0 s.f0.f1 s.f0.f2 s.f0.f3 s.f0.f4 s.f1 s.f2 s.f3.f0 s.f3.f1 s.f3.f2 s.f3.f3 s.f3.f4) (tab l.length G) := by
  intro d
  induction d with
  | zero =>
    intro i x hi _
    obtain rfl : i = l.length := by omega
    refine Ev.le 1 fun k => ?_
    simp only [search_reach.l0]
    rw [if_neg (by omega), part_full]
  | succ d ih =>
    intro i x hi hL
    have hlt : i < l.length := by omega
    have hw := wr_nat (show i ≤ 1000000 by omega)
    -- behind the store: what is remembered
    have tail : Ev (fun k => search_reach.j2 k (tab l.length g) (part l.length G (i + 1)) x i l (l.length : Int) i s.f0.f0 s.f0.f1 s.f0.f2 s.f0.f3 s.f0.f4 s.f1 s.f2 s.f3.f0 s.f3.f1 s.f3.f2 s.f3.f3 s.f3.f4 (rd_T46 l i).f0 (rd_T46 l i).f1 (rd_T46 l i).f2.f0 (rd_T46 l i).f2.f1 (rd_T46 l i).f2.f2 (rd_T46 l i).f2.f3 (rd_T46 l i).f2.f4 (rd_T46 l i).f2.f5 (rd_T46 l i).f2.f6) (tab l.length G) := by
      have hn := live_next hlt hg hL _ rfl
      have ih' := ih (i + 1) _ (by omega) hn
      refine Ev.step (f := fun k => (search_forbids.f k s.f0.f0 s.f0.f1 s.f0.f2 s.f0.f3 s.f0.f4 s.f1 s.f2 s.f3.f0 s.f3.f1 s.f3.f2 s.f3.f3 s.f3.f4 (rd_T46 l i).f0 (rd_T46 l i).f1 (rd_T46 l i).f2.f0 (rd_T46 l i).f2.f1 (rd_T46 l i).f2.f2 (rd_T46 l i).f2.f3 (rd_T46 l i).f2.f4 (rd_T46 l i).f2.f5 (rd_T46 l i).f2.f6).bind fun t => search_reach.l0 k (tab l.length g) (part l.length G (i + 1)) (if g i = true then mx (if t = true then -1 else x) (rd_T46 l i).f1 else (if t = true then -1 else x)) l (l.length : Int) ((i + 1 : Nat) : Int) s.f0.f0 s.f0.f1 s.f0.f2 s.f0.f3 s.f0.f4 s.f1 s.f2 s.f3.f0 s.f3.f1 s.f3.f2 s.f3.f3 s.f3.f4) (fun k => ?_) ?_
      · simp only [search_reach.j2, hw, tab_len, rdOf_tab _ _ _ hlt]
        congr 1
        funext t
        simp only [if_pos (show (0 : Int) ≤ (i : Int) by omega), if_pos (show (i : Int) < (l.length : Int) by omega)]
        cases t <;> by_cases c : g i = true <;> simp [c]
      · exact (forb_ev _ _).bind ih'
    have hcase : ∀ t : Bool, (t = (decide (0 ≤ x) && sat s.f0 (rd_T46 l i))) → Ev (fun k => search_reach.j1 k (tab l.length g) (part l.length G i) x i l (l.length : Int) i t s.f0.f0 s.f0.f1 s.f0.f2 s.f0.f3 s.f0.f4 s.f1 s.f2 s.f3.f0 s.f3.f1 s.f3.f2 s.f3.f3 s.f3.f4 (rd_T46 l i).f0 (rd_T46 l i).f1 (rd_T46 l i).f2.f0 (rd_T46 l i).f2.f1 (rd_T46 l i).f2.f2 (rd_T46 l i).f2.f3 (rd_T46 l i).f2.f4 (rd_T46 l i).f2.f5 (rd_T46 l i).f2.f6) (tab l.length G) := fun t ht => by
      have hplen : (part l.length G i).length = l.length := tab_len _ _
      cases t
      · have hGi : G i = false := by
          rw [hG]
          by_cases cs : sat s.f0 (rd_T46 l i) = true
          · rw [live_has hg hL (sat_at cs)]
            rw [cs, Bool.and_true] at ht
            rw [← ht]
            simp
          · have cs' : sat s.f0 (rd_T46 l i) = false := by simpa using cs
            rw [cs', Bool.false_and]
        refine Ev.step (fun k => ?_) tail
        simp only [search_reach.j1, Bool.false_eq_true, if_false, part_skip _ _ _ hGi]
      · have ht' := ht.symm
        rw [Bool.and_eq_true, decide_eq_true_eq] at ht'
        have hGi : G i = (decide (s.f1 = 0) || decide (wrap64 ((rd_T46 l i).f1 - x) ≤ s.f1)) := by
          rw [hG, ht'.2, Bool.true_and, live_has hg hL (sat_at ht'.2), decide_eq_true ht'.1, Bool.true_and]
        refine Ev.step (fun k => ?_) tail
        simp only [search_reach.j1, if_true, hplen]
        simp only [if_pos (show (0 : Int) ≤ (i : Int) by omega), if_pos (show (i : Int) < (l.length : Int) by omega)]
        by_cases c : s.f1 = 0
        · rw [if_pos c, Int.toNat_natCast, part_set _ _ _ _ (by rw [hGi, decide_eq_true c]; rfl)]
        · rw [if_neg c, Int.toNat_natCast, part_set _ _ _ _ (by rw [hGi, decide_eq_false c]; rfl)]
    by_cases c : x ≥ 0
    · refine Ev.step (f := fun k => (search_satisfies.f k s.f0.f0 s.f0.f1 s.f0.f2 s.f0.f3 s.f0.f4 (rd_T46 l i).f0 (rd_T46 l i).f1 (rd_T46 l i).f2.f0 (rd_T46 l i).f2.f1 (rd_T46 l i).f2.f2 (rd_T46 l i).f2.f3 (rd_T46 l i).f2.f4 (rd_T46 l i).f2.f5 (rd_T46 l i).f2.f6).bind fun t => search_reach.j1 k (tab l.length g) (part l.length G i) x i l (l.length : Int) i t s.f0.f0 s.f0.f1 s.f0.f2 s.f0.f3 s.f0.f4 s.f1 s.f2 s.f3.f0 s.f3.f1 s.f3.f2 s.f3.f3 s.f3.f4 (rd_T46 l i).f0 (rd_T46 l i).f1 (rd_T46 l i).f2.f0 (rd_T46 l i).f2.f1 (rd_T46 l i).f2.f2 (rd_T46 l i).f2.f3 (rd_T46 l i).f2.f4 (rd_T46 l i).f2.f5 (rd_T46 l i).f2.f6) (fun k => ?_) ?_
      · simp only [search_reach.l0]
        rw [if_pos (by omega), if_pos (by omega), if_pos (by omega), if_pos c]
      · exact (sat_ev _ _).bind (hcase _ (by rw [decide_eq_true (show (0 : Int) ≤ x by omega), Bool.true_and]))
    · refine Ev.step (fun k => ?_) (hcase false (by rw [decide_eq_false (show ¬ (0 : Int) ≤ x by omega), Bool.false_and]))
      simp only [search_reach.l0]
      rw [if_pos (by omega), if_pos (by omega), if_pos (by omega), if_neg c]
theorem reach_ev (s : S50) (l : List S46) (hl : l.length ≤ 1000000) (g : Nat → Bool) (hg : ∀ q, g q = true → 0 ≤ (rd_T46 l q).f1 ∧ (rd_T46 l q).f1 ≤ 1099511627776) (G : Nat → Bool)
    (hG : ∀ p, G p = (sat s.f0 (rd_T46 l p) && decide (0 ≤ prevQ s l g p p))) :
    Ev (fun k => search_reach.f k s.f0.f0 s.f0.f1 s.f0.f2 s.f0.f3 s.f0.f4 s.f1 s.f2 s.f3.f0 s.f3.f1 s.f3.f2 s.f3.f3 s.f3.f4 l (tab l.length g)) (tab l.length G) := by
  refine Ev.congr (fun k => ?_) (reach_l0 s l hl g hg G hG l.length 0 (-1) (by omega) ⟨Or.inl rfl, fun q h => by omega⟩)
  unfold search_reach.f
  rw [if_pos (by omega), if_pos (by omega), part_zero, Int.toNat_natCast]
  rfl
/-- the rows of a search -/
def rowsB (A : List S50) (l : List S46) (m : Nat) : List (List Bool) := tab m fun j => tab l.length (gN A l j)
theorem rdL11 (m : Nat) (h : Nat → List Bool) (j : Nat) (hj : j < m) : rd_L11 (tab m h) (j : Int) = h j := by
  unfold rd_L11
  rw [Int.toNat_natCast, tab_getD _ _ _ _ hj]
theorem rd_drop (A : List S50) (m : Nat) : rd_T50 (A.drop 1) (m : Int) = rd_T50 A ((m + 1 : Nat) : Int) := by
  simp only [rd_T50, Int.toNat_natCast, List.getD_eq_getElem?_getD, List.getElem?_drop]
  rw [show 1 + m = m + 1 by omega]
theorem layers_l1 (A : List S50) (h32 : A.length ≤ 32) (l : List S46) (hl : l.length ≤ 1000000) : ∀ d m, m + 1 + d = A.length →
    Ev (fun k => search_layers.l1 k l (rowsB A l (m + 1)) (A.drop 1) ((A.drop 1).length : Int) m) (rowsB A l A.length) := by
  intro d
  induction d with
  | zero =>
    intro m hm
    have e : m + 1 = A.length := by omega
    rw [e]
    refine Ev.le 1 fun k => ?_
    simp only [search_layers.l1, List.length_drop]
    rw [if_neg (by omega)]
  | succ d ih =>
    intro m hm
    have ih' := ih (m + 1) (by omega)
    refine Ev.step (f := fun k => (search_reach.f k (rd_T50 A ((m + 1 : Nat) : Int)).f0.f0 (rd_T50 A ((m + 1 : Nat) : Int)).f0.f1 (rd_T50 A ((m + 1 : Nat) : Int)).f0.f2 (rd_T50 A ((m + 1 : Nat) : Int)).f0.f3 (rd_T50 A ((m + 1 : Nat) : Int)).f0.f4 (rd_T50 A ((m + 1 : Nat) : Int)).f1 (rd_T50 A ((m + 1 : Nat) : Int)).f2 (rd_T50 A ((m + 1 : Nat) : Int)).f3.f0 (rd_T50 A ((m + 1 : Nat) : Int)).f3.f1 (rd_T50 A ((m + 1 : Nat) : Int)).f3.f2 (rd_T50 A ((m + 1 : Nat) : Int)).f3.f3 (rd_T50 A ((m + 1 : Nat) : Int)).f3.f4 l (tab l.length (gN A l m))).bind fun t => search_layers.l1 k l (rowsB A l (m + 1) ++ [t]) (A.drop 1) ((A.drop 1).length : Int) ((m + 1 : Nat) : Int)) (fun k => ?_) ?_
    · simp only [search_layers.l1, wr_nat (show m ≤ 1000000 by omega), rd_drop A m]
      rw [if_pos (by rw [List.length_drop]; omega), if_pos (by omega), if_pos (by rw [List.length_drop]; omega), if_pos (by unfold rowsB; rw [tab_len]; omega)]
      congr 1
      · rw [rowsB, rdL11 _ _ _ (by omega)]
      · funext t
        rw [if_pos (by unfold rowsB; rw [tab_len]; omega)]
    · refine (reach_ev _ l hl _ (fun q h => gN_at h) (gN A l (m + 1)) (fun p => by rw [gN])).bind ?_
      have e : rowsB A l (m + 1) ++ [tab l.length (gN A l (m + 1))] = rowsB A l (m + 1 + 1) := tab_snoc (m + 1) (fun j => tab l.length (gN A l j))
      rw [e]
      exact ih'
theorem layers_l0 (A : List S50) (h1 : 1 ≤ A.length) (h32 : A.length ≤ 32) (l : List S46) (hl : l.length ≤ 1000000) : ∀ d i, i + d = l.length →
    Ev (fun k => search_layers.l0 k l (part l.length (gN A l 0) i) l (l.length : Int) i A) (rowsB A l A.length) := by
  intro d
  induction d with
  | zero =>
    intro i hi
    obtain rfl : i = l.length := by omega
    refine Ev.step (fun k => ?_) (layers_l1 A h32 l hl (A.length - 1) 0 (by omega))
    simp only [search_layers.l0]
    rw [if_neg (by omega), if_pos (by omega), part_full, Option.bind_some]
    rfl
  | succ d ih =>
    intro i hi
    have ih' := ih (i + 1) (by omega)
    refine Ev.step (f := fun k => (search_satisfies.f k (rd_T50 A 0).f0.f0 (rd_T50 A 0).f0.f1 (rd_T50 A 0).f0.f2 (rd_T50 A 0).f0.f3 (rd_T50 A 0).f0.f4 (rd_T46 l i).f0 (rd_T46 l i).f1 (rd_T46 l i).f2.f0 (rd_T46 l i).f2.f1 (rd_T46 l i).f2.f2 (rd_T46 l i).f2.f3 (rd_T46 l i).f2.f4 (rd_T46 l i).f2.f5 (rd_T46 l i).f2.f6).bind fun t => search_layers.l0 k l ((part l.length (gN A l 0) i).set i t) l (l.length : Int) ((i + 1 : Nat) : Int) A) (fun k => ?_) ?_
    · simp only [search_layers.l0, wr_nat (show i ≤ 1000000 by omega)]
      rw [if_pos (by omega), if_pos (by omega), if_pos (by omega), if_pos (by omega)]
      congr 1
      funext t
      rw [if_pos (by unfold part; rw [tab_len]; omega), Int.toNat_natCast]
    · refine (sat_ev _ _).bind ?_
      rw [part_set _ _ _ _ (by rw [gN])]
      exact ih'
/-- the rows of the code's search -/
def layB (A : List S50) (l : List S46) : List (List Bool) := if chkErr A = 0 then rowsB A l A.length else []
theorem layers_ev (A : List S50) (l : List S46) (hl : l.length ≤ 1000000) : Ev (fun k => search_layers.f k A l) (layB A l) := by
  unfold search_layers.f layB
  refine (check_ev A).bind ?_
  by_cases c : chkErr A = 0
  · have h := chk_len c
    simp only [if_pos c]
    refine Ev.congr (fun k => ?_) (layers_l0 A h.1 h.2 l hl l.length 0 (by omega))
    rw [if_pos (by omega), if_pos (by omega), part_zero, Int.toNat_natCast]
    rfl
  · simp only [if_neg c]
    exact Ev.now _
end Go.Proofs.Ytgdjiphljadlcaa.K
