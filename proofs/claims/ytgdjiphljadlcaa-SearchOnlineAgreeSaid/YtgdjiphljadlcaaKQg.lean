/- A part of the plain laws of the search (layer 47); no condition. -/
import Derived.Test.YtgdjiphljadlcaaKQa
import Derived.Test.YtgdjiphljadlcaaKQb
import Derived.Test.YtgdjiphljadlcaaKQc
import Derived.Test.YtgdjiphljadlcaaKQd
import Derived.Test.YtgdjiphljadlcaaKQe
import Derived.Test.YtgdjiphljadlcaaKQf
import Derived.Test.YtgdjiphljadlcaaK0
import Derived.Test.YtgdjiphljadlcaaK8
import Derived.Test.YtgdjiphljadlcaaK14
namespace Go.Proofs.Ytgdjiphljadlcaa.K
open Go.RowKit Go.Proofs.YtgdjiphljadlcaaW.PrintWords Go.Proofs.YtgdjiphljadlcaaW.PrintLast Go.Proofs.YtgdjiphljadlcaaW.PrintMore
set_option linter.unusedSimpArgs false
/-- the place of the step that lies d steps before the last one, in the trace that ends at a place -/
def back (A : List S50) (l : List S46) (at_ : Nat) : Nat → Nat
  | 0 => at_
  | d + 1 => (prevQ (rd_T50 A ((A.length - 1 - d : Nat) : Int)) l (gN A l (A.length - 1 - d - 1)) (back A l at_ d) (back A l at_ d)).toNat
theorem back_ok (A : List S50) (l : List S46) (at_ : Nat) (ha : at_ < l.length) (hg : gN A l (A.length - 1) at_ = true) : ∀ d, d ≤ A.length - 1 → gN A l (A.length - 1 - d) (back A l at_ d) = true ∧ back A l at_ d < l.length
  | 0, _ => ⟨hg, ha⟩
  | d + 1, h => by
    obtain ⟨h1, h2⟩ := back_ok A l at_ ha hg d (by omega)
    obtain ⟨i, hi⟩ : ∃ i, A.length - 1 - d = i + 1 := ⟨A.length - 1 - d - 1, by omega⟩
    have h1' := h1
    rw [hi, gN, Bool.and_eq_true, decide_eq_true_eq] at h1'
    obtain ⟨q, a1, a2, a3, _, _⟩ := prevQ_is _ _ _ _ _ h1'.2
    have e : back A l at_ (d + 1) = q := by
      rw [back, hi, Nat.add_sub_cancel, a2, Int.toNat_natCast]
    rw [e, show A.length - 1 - (d + 1) = i by omega]
    exact ⟨a3, by omega⟩
theorem back_pos (A : List S50) (l : List S46) (at_ : Nat) (ha : at_ < l.length) (hg : gN A l (A.length - 1) at_ = true) (d : Nat) (h : d + 1 ≤ A.length - 1) :
    prevQ (rd_T50 A ((A.length - 1 - d : Nat) : Int)) l (gN A l (A.length - 1 - d - 1)) (back A l at_ d) (back A l at_ d) = (back A l at_ (d + 1) : Int) ∧ 0 ≤ prevQ (rd_T50 A ((A.length - 1 - d : Nat) : Int)) l (gN A l (A.length - 1 - d - 1)) (back A l at_ d) (back A l at_ d) := by
  obtain ⟨h1, _⟩ := back_ok A l at_ ha hg d (by omega)
  obtain ⟨i, hi⟩ : ∃ i, A.length - 1 - d = i + 1 := ⟨A.length - 1 - d - 1, by omega⟩
  rw [hi, gN, Bool.and_eq_true, decide_eq_true_eq] at h1
  have h3 : 0 ≤ prevQ (rd_T50 A ((A.length - 1 - d : Nat) : Int)) l (gN A l (A.length - 1 - d - 1)) (back A l at_ d) (back A l at_ d) := by
    rw [hi, Nat.add_sub_cancel]
    exact h1.2
  refine ⟨?_, h3⟩
  rw [back, Int.toNat_of_nonneg h3]
/-- the places from step j on; the rest 0 -/
def trS (A : List S50) (l : List S46) (at_ j : Nat) (i : Nat) : Int := if j ≤ i then (back A l at_ (A.length - 1 - i) : Int) else 0
def trace_ (A : List S50) (l : List S46) (at_ : Nat) : List Int := tab A.length (trS A l at_ 0)
theorem trS_set (A : List S50) (l : List S46) (at_ j : Nat) (hj : 0 < j) (v : Int) (hv : v = (back A l at_ (A.length - 1 - (j - 1)) : Int)) : (tab A.length (trS A l at_ j)).set (j - 1) v = tab A.length (trS A l at_ (j - 1)) := by
  refine tab_set _ _ _ _ _ fun i _ => ?_
  unfold trS
  by_cases c : i = j - 1
  · rw [if_pos c, if_pos (by omega), hv, c]
  · rw [if_neg c]
    by_cases c2 : j ≤ i
    · rw [if_pos c2, if_pos (by omega)]
    · rw [if_neg c2, if_neg (by omega)]
theorem trS_first (A : List S50) (l : List S46) (at_ : Nat) (h : 1 ≤ A.length) : (List.replicate A.length (0 : Int)).set (A.length - 1) (at_ : Int) = tab A.length (trS A l at_ (A.length - 1)) := by
  have e : List.replicate A.length (0 : Int) = tab A.length (fun _ => 0) := by
    refine List.ext_getElem (by simp [tab]) fun i h1 h2 => ?_
    simp [tab]
  rw [e]
  refine tab_set _ _ _ _ _ fun i hi => ?_
  unfold trS
  by_cases c : i = A.length - 1
  · rw [if_pos c, if_pos (by omega), c, Nat.sub_self]
    rfl
  · rw [if_neg c, if_neg (by omega)]
theorem rd_tab (m : Nat) (h : Nat → Int) (i : Nat) (hi : i < m) : rd (tab m h) (i : Int) = h i := by
  unfold rd
  rw [Int.toNat_natCast, tab_getD _ _ _ _ hi]
theorem clear_cons (s : S50) (l : List S46) (x q : Nat) (hx : x ≤ l.length) (hq : q < x) : clear_ s ((l.take x).drop q) = (!forb s (rd_T46 l q) && clear_ s ((l.take x).drop (q + 1))) := by
  rw [drop_cons_ hx hq, rd46 l q (by omega)]
  rfl
/-- the code's way back from a place to the place of the step before -/
theorem trace_l1 (A : List S50) (h32 : A.length ≤ 32) (l : List S46) (hl : l.length ≤ 1000000) (j : Nat) (hj0 : 0 < j) (hj : j < A.length) (out : List Int) (ho : out.length = A.length) (x : Nat) (hx : x < l.length) (hrx : rd out j = (x : Int)) (R : List Int × Bool)
    (next : Ev (fun k => search_Trace.l0 k l (rowsB A l A.length) (out.set (j - 1) (prevQ (rd_T50 A j) l (gN A l (j - 1)) x x)) ((j - 1 : Nat) : Int) A) R) : ∀ n, n ≤ x → prevQ (rd_T50 A j) l (gN A l (j - 1)) x x = prevQ (rd_T50 A j) l (gN A l (j - 1)) x n → 0 ≤ prevQ (rd_T50 A j) l (gN A l (j - 1)) x n → clear_ (rd_T50 A j) ((l.take x).drop n) = true →
    Ev (fun k => search_Trace.l1 k l (rowsB A l A.length) out j ((n : Int) - 1) A (rd_T50 A j).f0.f0 (rd_T50 A j).f0.f1 (rd_T50 A j).f0.f2 (rd_T50 A j).f0.f3 (rd_T50 A j).f0.f4 (rd_T50 A j).f1 (rd_T50 A j).f2 (rd_T50 A j).f3.f0 (rd_T50 A j).f3.f1 (rd_T50 A j).f3.f2 (rd_T50 A j).f3.f3 (rd_T50 A j).f3.f4) R := by
  intro n
  induction n with
  | zero => intro _ _ h _; simp [prevQ] at h
  | succ q ih =>
    intro hn hp h0 hc
    have e : ((q + 1 : Nat) : Int) - 1 = (q : Int) := by omega
    have ew := wr_down q (by omega)
    have hwp := wr_pred hj0 (show j ≤ 1000000 by omega)
    rw [e] at ew ⊢
    have hrow : rd_L11 (rowsB A l A.length) ((j - 1 : Nat) : Int) = tab l.length (gN A l (j - 1)) := rdL11 _ _ _ (by omega)
    -- whether the way stops here
    have stop : ∀ t : Bool, (t = !(gN A l (j - 1) q && within (rd_T50 A j) l q x)) → Ev (fun k => search_Trace.j3 k l (rowsB A l A.length) out j (q : Int) t A (rd_T50 A j).f0.f0 (rd_T50 A j).f0.f1 (rd_T50 A j).f0.f2 (rd_T50 A j).f0.f3 (rd_T50 A j).f0.f4 (rd_T50 A j).f1 (rd_T50 A j).f2 (rd_T50 A j).f3.f0 (rd_T50 A j).f3.f1 (rd_T50 A j).f3.f2 (rd_T50 A j).f3.f3 (rd_T50 A j).f3.f4) R := fun t ht => by
      have hfol : fol (rd_T50 A j) l q x = within (rd_T50 A j) l q x := by
        unfold fol
        rw [decide_eq_true (show q < x by omega), hc, Bool.true_and, Bool.and_true]
      cases t
      · have ht' : gN A l (j - 1) q = true ∧ fol (rd_T50 A j) l q x = true := by
          rw [hfol, ← Bool.and_eq_true]
          simpa using ht
        have hq : prevQ (rd_T50 A j) l (gN A l (j - 1)) x (q + 1) = (q : Int) := by rw [prevQ, if_pos ht']
        rw [hp, hq] at next
        refine Ev.step (fun k => ?_) next
        simp only [search_Trace.j3, Bool.false_eq_true, if_false, hwp, Int.toNat_natCast]
        rw [if_neg (by omega), if_pos (by omega), if_pos (by omega)]
      · have ht' : ¬ (gN A l (j - 1) q = true ∧ fol (rd_T50 A j) l q x = true) := by
          rw [hfol, ← Bool.and_eq_true]
          intro h
          rw [h] at ht
          cases ht
        have hq : prevQ (rd_T50 A j) l (gN A l (j - 1)) x (q + 1) = prevQ (rd_T50 A j) l (gN A l (j - 1)) x q := by rw [prevQ, if_neg ht']
        rw [hq] at hp h0
        have hfb : clear_ (rd_T50 A j) ((l.take x).drop q) = true := by
          obtain ⟨q', b1, _, _, b4, _⟩ := prevQ_is _ _ _ _ _ h0
          unfold fol at b4
          rw [Bool.and_eq_true] at b4
          have b5 := b4.2
          unfold clear_ at b5 ⊢
          rw [List.all_eq_true] at b5 ⊢
          intro o ho
          refine b5 o ?_
          rw [show (l.take x).drop q = ((l.take x).drop (q' + 1)).drop (q - (q' + 1)) by rw [List.drop_drop]; congr 1; omega] at ho
          exact List.mem_of_mem_drop ho
        have ih' := ih (by omega) hp h0 hfb
        rw [clear_cons _ _ _ _ (by omega) (by omega), Bool.and_eq_true, Bool.not_eq_true'] at hfb
        refine Ev.step (f := fun k => (search_forbids.f k (rd_T50 A j).f0.f0 (rd_T50 A j).f0.f1 (rd_T50 A j).f0.f2 (rd_T50 A j).f0.f3 (rd_T50 A j).f0.f4 (rd_T50 A j).f1 (rd_T50 A j).f2 (rd_T50 A j).f3.f0 (rd_T50 A j).f3.f1 (rd_T50 A j).f3.f2 (rd_T50 A j).f3.f3 (rd_T50 A j).f3.f4 (rd_T46 l q).f0 (rd_T46 l q).f1 (rd_T46 l q).f2.f0 (rd_T46 l q).f2.f1 (rd_T46 l q).f2.f2 (rd_T46 l q).f2.f3 (rd_T46 l q).f2.f4 (rd_T46 l q).f2.f5 (rd_T46 l q).f2.f6).bind fun t => if t = true then some (([] : List Int), false) else search_Trace.l1 k l (rowsB A l A.length) out j ((q : Int) - 1) A (rd_T50 A j).f0.f0 (rd_T50 A j).f0.f1 (rd_T50 A j).f0.f2 (rd_T50 A j).f0.f3 (rd_T50 A j).f0.f4 (rd_T50 A j).f1 (rd_T50 A j).f2 (rd_T50 A j).f3.f0 (rd_T50 A j).f3.f1 (rd_T50 A j).f3.f2 (rd_T50 A j).f3.f3 (rd_T50 A j).f3.f4) (fun k => ?_) ?_
        · simp only [search_Trace.j3, if_true, ew]
          rw [if_pos (by omega), if_pos (by omega)]
        · refine (forb_ev _ _).bind ?_
          simp only [hfb.1, Bool.false_eq_true, if_false]
          exact ih'
    by_cases cg : gN A l (j - 1) q = true
    · by_cases cw : (rd_T50 A j).f1 = 0
      · refine Ev.step (fun k => ?_) (stop false (by rw [cg]; unfold within; rw [decide_eq_true cw]; rfl))
        simp only [search_Trace.l1, hwp, hrow, tab_len, rowsB_len, rdOf_tab _ _ _ (show q < l.length by omega)]
        rw [if_pos (by omega), if_pos (by omega), if_pos (by omega), if_pos (by omega), if_pos (by omega), if_pos cg, if_pos cw]
      · refine Ev.step (fun k => ?_) (stop (decide (wrap64 ((rd_T46 l x).f1 - (rd_T46 l q).f1) > (rd_T50 A j).f1)) (by rw [cg]; unfold within; rw [decide_eq_false cw]; simp))
        simp only [search_Trace.l1, hwp, hrow, tab_len, rowsB_len, rdOf_tab _ _ _ (show q < l.length by omega), hrx]
        rw [if_pos (by omega), if_pos (by omega), if_pos (by omega), if_pos (by omega), if_pos (by omega), if_pos cg, if_neg cw, if_pos (by omega), if_pos (by omega), if_pos (by omega), if_pos (by omega), if_pos (by omega)]
    · have cg' : gN A l (j - 1) q = false := by simpa using cg
      refine Ev.step (fun k => ?_) (stop true (by rw [cg']; rfl))
      simp only [search_Trace.l1, hwp, hrow, tab_len, rowsB_len, rdOf_tab _ _ _ (show q < l.length by omega)]
      rw [if_pos (by omega), if_pos (by omega), if_pos (by omega), if_pos (by omega), if_pos (by omega), if_neg cg]
theorem drop_nil_ (s : S50) (l : List S46) (x : Nat) : clear_ s ((l.take x).drop x) = true := by
  rw [List.drop_eq_nil_of_le (by rw [List.length_take]; omega)]
  rfl
theorem trace_l0 (A : List S50) (h32 : A.length ≤ 32) (l : List S46) (hl : l.length ≤ 1000000) (at_ : Nat) (ha : at_ < l.length) (hg : gN A l (A.length - 1) at_ = true) : ∀ j, j ≤ A.length - 1 →
    Ev (fun k => search_Trace.l0 k l (rowsB A l A.length) (tab A.length (trS A l at_ j)) j A) (trace_ A l at_, true) := by
  intro j
  induction j with
  | zero =>
    intro _
    refine Ev.le 1 fun k => ?_
    simp only [search_Trace.l0]
    rw [if_neg (by omega)]
    rfl
  | succ j ih =>
    intro hj
    have ih' := ih (by omega)
    have hb := back_pos A l at_ ha hg (A.length - 1 - (j + 1)) (by omega)
    have hok := back_ok A l at_ ha hg (A.length - 1 - (j + 1)) (by omega)
    rw [show A.length - 1 - (A.length - 1 - (j + 1)) = j + 1 by omega, Nat.add_sub_cancel, show A.length - 1 - (j + 1) + 1 = A.length - 1 - j by omega] at hb
    have hrd : rd (tab A.length (trS A l at_ (j + 1))) ((j + 1 : Nat) : Int) = (back A l at_ (A.length - 1 - (j + 1)) : Int) := by
      rw [rd_tab _ _ _ (by omega)]
      unfold trS
      rw [if_pos (Nat.le_refl _)]
    have hset := trS_set A l at_ (j + 1) (by omega) _ hb.1
    rw [Nat.add_sub_cancel] at hset
    rw [← hset] at ih'
    refine Ev.step (fun k => ?_) (trace_l1 A h32 l hl (j + 1) (by omega) (by omega) (tab A.length (trS A l at_ (j + 1))) (tab_len _ _) _ hok.2 hrd _ ?_ (back A l at_ (A.length - 1 - (j + 1))) (Nat.le_refl _) rfl ?_ (drop_nil_ _ _ _))
    · simp only [search_Trace.l0, tab_len, hrd]
      rw [if_pos (by omega), if_pos (by omega), if_pos (by omega), if_pos (by omega), wr_in (by omega)]
    · exact ih'
    · exact hb.2
/-- the match that is returned -/
def trB (A : List S50) (l : List S46) (x : Int) : List Int × Bool :=
  if chkErr A = 0 ∧ 0 ≤ x ∧ x < (l.length : Int) ∧ gN A l (A.length - 1) x.toNat = true then (trace_ A l x.toNat, true) else ([], false)
theorem trace_ev (A : List S50) (l : List S46) (hl : l.length ≤ 1000000) (x : Int) : Ev (fun k => search_Trace.f k A l x) (trB A l x) := by
  have no : Ev (fun k => search_Trace.j0 k l x (layB A l) true A) ([], false) := by
    refine Ev.le 1 fun k => ?_
    simp only [search_Trace.j0, if_true]
  unfold search_Trace.f
  refine (layers_ev A l hl).bind ?_
  by_cases c1 : x < 0
  · simp only [if_pos c1]
    rw [trB, if_neg (by omega)]
    exact no
  by_cases c2 : x ≥ (l.length : Int)
  · simp only [if_neg c1, if_pos c2]
    rw [trB, if_neg (by omega)]
    exact no
  simp only [if_neg c1, if_neg c2]
  by_cases c3 : chkErr A = 0
  · have h := chk_len c3
    obtain ⟨q, rfl⟩ : ∃ q : Nat, x = (q : Int) := ⟨x.toNat, by omega⟩
    have hq : q < l.length := by omega
    have el : layB A l = rowsB A l A.length := by rw [layB, if_pos c3]
    have hrow : rd_L11 (rowsB A l A.length) ((A.length - 1 : Nat) : Int) = tab l.length (gN A l (A.length - 1)) := rdL11 _ _ _ (by omega)
    rw [el] at no ⊢
    simp only [rowsB_len, if_neg (show ¬ (A.length : Int) = 0 by omega), wr_pred (show 0 < A.length by omega) (show A.length ≤ 1000000 by omega), if_pos (show (0 : Int) ≤ ((A.length - 1 : Nat) : Int) by omega), if_pos (show ((A.length - 1 : Nat) : Int) < (A.length : Int) by omega), hrow, tab_len, if_pos (show (0 : Int) ≤ (q : Int) by omega), if_pos (show (q : Int) < (l.length : Int) by omega), rdOf_tab _ _ _ hq]
    by_cases c4 : gN A l (A.length - 1) q = true
    · rw [trB, if_pos ⟨c3, by omega, by omega, by rw [Int.toNat_natCast]; exact c4⟩, Int.toNat_natCast]
      refine Ev.step (fun k => ?_) (trace_l0 A h.2 l hl q hq c4 (A.length - 1) (Nat.le_refl _))
      simp only [search_Trace.j0, c4, Bool.not_true, Bool.false_eq_true, if_false, rowsB_len, wr_pred (show 0 < A.length by omega) (show A.length ≤ 1000000 by omega), Int.toNat_natCast, List.length_replicate, Option.bind_some]
      rw [if_pos (by omega), if_pos (by omega), if_pos (by omega), if_pos (by omega), trS_first A l q h.1]
    · have c4' : gN A l (A.length - 1) q = false := by simpa using c4
      rw [trB, if_neg (by rw [Int.toNat_natCast]; exact fun h => c4 h.2.2.2), c4']
      exact no
  · have el : layB A l = [] := by rw [layB, if_neg c3]
    rw [el] at no ⊢
    rw [trB, if_neg (fun h => c3 h.1)]
    simpa using no
end Go.Proofs.Ytgdjiphljadlcaa.K
