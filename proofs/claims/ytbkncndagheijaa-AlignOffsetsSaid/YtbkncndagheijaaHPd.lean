/- Both checks accept just the alignments; costs, equality of lists; plain law over the printed functions. -/
import Derived.Test.YtbkncndagheijaaHPc
import Derived.Test.YtbkncndagheijaaH5
import Derived.Test.YtbkncndagheijaaH10
import Derived.Test.YtbkncndagheijaaH12
namespace Go.Proofs.Ytbkncndagheijaa.H
open Go.RowKit Go.Proofs.YtbkncndagheijaaW.PrintWords Go.Proofs.YtbkncndagheijaaW.PrintLast Go.Proofs.Ytbkncndagheijaa.Lev
theorem Ev.steps {α : Type} {g f : Nat → Option α} {r : α} (n : Nat) (h : ∀ k, g (k + n) = f k) (k : Ev f r) : Ev g r := by
  obtain ⟨K, hK⟩ := k
  refine ⟨K + n, fun m hm => ?_⟩
  obtain ⟨q, rfl⟩ : ∃ q, m = q + n := ⟨m - n, by omega⟩
  rw [h]; exact hK q (by omega)
theorem Ev.val {α : Type} {g : Nat → Option α} {r : α} (n : Nat) (h : ∀ k, g (k + n) = some r) : Ev g r := Ev.steps n h (Ev.now r)
/-- whether a list is an alignment of the rests from i and from j on -/
def chk (a b : List ByteArray) : Nat → Nat → List S43 → Bool
  | i, j, [] => decide (i = a.length) && decide (j = b.length)
  | i, j, x :: l =>
    if x.f0 = -1 then (if x.f1 = (j : Int) ∧ j < b.length then chk a b i (j + 1) l else false)
    else if x.f0 = (i : Int) ∧ i < a.length then
      (if x.f1 = -1 then chk a b (i + 1) j l
       else if x.f1 = (j : Int) ∧ j < b.length ∧ (rdOf ByteArray.empty a i).toList = (rdOf ByteArray.empty b j).toList then chk a b (i + 1) (j + 1) l else false)
    else false
theorem chk_iff (a b : List ByteArray) (l : List S43) : ∀ i j, chk a b i j l = true ↔ ∃ n, PA a b i j l n := by
  induction l with
  | nil =>
    intro i j
    simp only [chk, Bool.and_eq_true, decide_eq_true_eq]
    constructor
    · rintro ⟨rfl, rfl⟩; exact ⟨0, .done⟩
    · rintro ⟨n, h⟩; cases h; exact ⟨rfl, rfl⟩
  | cons x l ih =>
    intro i j
    obtain ⟨x0, x1⟩ := x
    simp only [chk]
    constructor
    · intro h
      by_cases c0 : x0 = -1
      · rw [if_pos c0] at h
        by_cases c1 : x1 = (j : Int) ∧ j < b.length
        · rw [if_pos c1] at h
          obtain ⟨n, hn⟩ := (ih _ _).1 h
          obtain ⟨rfl, c2⟩ := c1
          subst c0
          exact ⟨n + 1, .right c2 hn⟩
        · rw [if_neg c1] at h; cases h
      · rw [if_neg c0] at h
        by_cases c1 : x0 = (i : Int) ∧ i < a.length
        · rw [if_pos c1] at h
          obtain ⟨rfl, c2⟩ := c1
          by_cases c3 : x1 = -1
          · rw [if_pos c3] at h
            obtain ⟨n, hn⟩ := (ih _ _).1 h
            subst c3
            exact ⟨n + 1, .left c2 hn⟩
          · rw [if_neg c3] at h
            by_cases c4 : x1 = (j : Int) ∧ j < b.length ∧ (rdOf ByteArray.empty a i).toList = (rdOf ByteArray.empty b j).toList
            · rw [if_pos c4] at h
              obtain ⟨n, hn⟩ := (ih _ _).1 h
              obtain ⟨rfl, c5, c6⟩ := c4
              exact ⟨n, .both c2 c5 c6 hn⟩
            · rw [if_neg c4] at h; cases h
        · rw [if_neg c1] at h; cases h
    · rintro ⟨n, h⟩
      cases h with
      | both hi hj e h => rw [if_neg (by omega), if_pos ⟨rfl, hi⟩, if_neg (by omega), if_pos ⟨rfl, hj, e⟩]; exact (ih _ _).2 ⟨_, h⟩
      | left hi h => rw [if_neg (by omega), if_pos ⟨rfl, hi⟩, if_pos rfl]; exact (ih _ _).2 ⟨_, h⟩
      | right hj h => rw [if_pos rfl, if_pos ⟨rfl, hj⟩]; exact (ih _ _).2 ⟨_, h⟩
theorem rd_drop (l : List S43) (p : Nat) (h : p < l.length) : l.drop p = rd_T43 l (p : Int) :: l.drop (p + 1) := by
  rw [List.drop_eq_getElem_cons h]
  congr 1
  simp only [rd_T43, Int.toNat_natCast]
  rw [List.getD_eq_getElem?_getD, List.getElem?_eq_getElem h, Option.getD_some]
theorem fal {α : Type} {p : Bool} (h : p = false) (x y : α) : (if p = true then x else y) = y := by rw [h]; rfl
theorem tru {α : Type} {p : Bool} (h : p = true) (x y : α) : (if p = true then x else y) = x := by rw [h]; rfl
section
variable {a b : List ByteArray} (ha : a.length ≤ 100000) (hb : b.length ≤ 100000) {l : List S43} (hl : l.length ≤ 300000)
include ha hb hl
set_option maxHeartbeats 2000000 in
theorem check_from : ∀ (d p i j : Nat), p + d = l.length → i ≤ a.length → j ≤ b.length → Ev (fun k => align_Check.l0 k a b (i : Int) (j : Int) l (l.length : Int) (p : Int)) (chk a b i j (l.drop p)) := by
  intro d
  induction d with
  | zero =>
    intro p i j hp hi hj
    obtain rfl : p = l.length := by omega
    rw [List.drop_length]
    refine Ev.val 1 (fun k => ?_)
    simp only [align_Check.l0, chk]
    rw [if_neg (by omega)]
    by_cases c : i = a.length
    · rw [if_pos (by omega), decide_eq_true c, Bool.true_and]
      by_cases c' : j = b.length
      · rw [decide_eq_true c', beq_iff_eq.2 (by omega)]
      · rw [decide_eq_false c', beq_eq_false_iff_ne.2 (by omega)]
    · rw [if_neg (by omega), decide_eq_false c, Bool.false_and]
  | succ d ih =>
    intro p i j hp hi hj
    rw [rd_drop l p (by omega)]
    have W1 : Aside0 (wrap64 ((i : Int) + 1) = ((i + 1 : Nat) : Int)) := ⟨by rw [wr_in (by omega)]; omega⟩
    have W2 : Aside0 (wrap64 ((j : Int) + 1) = ((j + 1 : Nat) : Int)) := ⟨by rw [wr_in (by omega)]; omega⟩
    have W3 : Aside0 (wrap64 ((p : Int) + 1) = ((p + 1 : Nat) : Int)) := ⟨by rw [wr_in (by omega)]; omega⟩
    have lp : (p : Int) < l.length := by omega
    have lp0 : (0 : Int) ≤ p := by omega
    generalize hx : rd_T43 l (p : Int) = x
    have HX := Aside0.mk hx
    clear hx
    simp only [chk]
    have go0 : ∀ k, align_Check.l0 (k + 1) a b (i : Int) (j : Int) l (l.length : Int) (p : Int) = if x.f0 = -1 then align_Check.j1 k a b (i : Int) (j : Int) l (l.length : Int) (p : Int) (x.f1 == -1) x.f0 x.f1 else align_Check.j1 k a b (i : Int) (j : Int) l (l.length : Int) (p : Int) false x.f0 x.f1 := by
      intro k
      simp only [align_Check.l0, HX.out]
      rw [if_pos lp, if_pos lp0, if_pos lp]
    by_cases c0 : x.f0 = -1
    · rw [if_pos c0]
      by_cases c1 : x.f1 = (j : Int) ∧ j < b.length
      · rw [if_pos c1]
        obtain ⟨c1, c2⟩ := c1
        refine Ev.steps 4 (fun k => ?_) (ih (p + 1) i (j + 1) (by omega) hi (by omega))
        rw [go0, if_pos c0]
        simp only [align_Check.j1]
        rw [fal (beq_eq_false_iff_ne.2 (by omega)), if_pos c0]
        simp only [align_Check.j2]
        rw [if_neg (by omega), if_pos c1]
        simp only [align_Check.j3, W2.out, W3.out]
        rw [fal (decide_eq_false (by omega)), if_pos c0]
      · rw [if_neg c1]
        by_cases c2 : x.f1 = -1
        · refine Ev.val 2 (fun k => ?_)
          rw [go0, if_pos c0]
          simp only [align_Check.j1]
          rw [tru (beq_iff_eq.2 c2)]
        · refine Ev.val 4 (fun k => ?_)
          rw [go0, if_pos c0]
          simp only [align_Check.j1]
          rw [fal (beq_eq_false_iff_ne.2 c2), if_pos c0]
          simp only [align_Check.j2]
          rw [if_neg c2]
          by_cases c3 : x.f1 = (j : Int)
          · rw [if_pos c3]
            simp only [align_Check.j3]
            rw [tru (decide_eq_true (by omega))]
          · rw [if_neg c3]
            simp only [align_Check.j3]
            rw [if_pos trivial]
    · rw [if_neg c0]
      by_cases c1 : x.f0 = (i : Int) ∧ i < a.length
      · rw [if_pos c1]
        obtain ⟨c1, c2⟩ := c1
        have go1 : ∀ k, align_Check.l0 (k + 2) a b (i : Int) (j : Int) l (l.length : Int) (p : Int) = align_Check.j2 k a b ((i + 1 : Nat) : Int) (j : Int) l (l.length : Int) (p : Int) x.f0 x.f1 := by
          intro k
          rw [go0, if_neg c0]
          simp only [align_Check.j1, W1.out]
          rw [if_neg (by simp), if_neg c0, if_pos c1, if_neg (by omega)]
        by_cases c3 : x.f1 = -1
        · rw [if_pos c3]
          refine Ev.steps 3 (fun k => ?_) (ih (p + 1) (i + 1) j (by omega) (by omega) hj)
          rw [go1]
          simp only [align_Check.j2, W3.out]
          rw [if_pos c3, if_neg c0]
        · rw [if_neg c3]
          by_cases c4 : x.f1 = (j : Int) ∧ j < b.length ∧ (rdOf ByteArray.empty a i).toList = (rdOf ByteArray.empty b j).toList
          · rw [if_pos c4]
            obtain ⟨c4, c5, c6⟩ := c4
            refine Ev.steps 4 (fun k => ?_) (ih (p + 1) (i + 1) (j + 1) (by omega) (by omega) (by omega))
            rw [go1]
            simp only [align_Check.j2]
            rw [if_neg c3, if_pos c4]
            simp only [align_Check.j3, W2.out, W3.out]
            rw [fal (decide_eq_false (by omega)), if_neg c0, if_neg c3, if_pos (by omega), if_pos (by omega), if_pos (by omega), if_pos (by omega), if_pos (by rw [c1, c4]; exact c6)]
          · rw [if_neg c4]
            refine Ev.val 4 (fun k => ?_)
            rw [go1]
            simp only [align_Check.j2]
            rw [if_neg c3]
            by_cases c5 : x.f1 = (j : Int)
            · rw [if_pos c5]
              simp only [align_Check.j3]
              by_cases c6 : j < b.length
              · rw [fal (decide_eq_false (by omega)), if_neg c0, if_neg c3, if_pos (by omega), if_pos (by omega), if_pos (by omega), if_pos (by omega), if_neg (by rw [c1, c5]; exact fun e => c4 ⟨c5, c6, e⟩)]
              · rw [tru (decide_eq_true (by omega))]
            · rw [if_neg c5]
              simp only [align_Check.j3]
              rw [if_pos trivial]
      · rw [if_neg c1]
        refine Ev.val 2 (fun k => ?_)
        rw [go0, if_neg c0]
        simp only [align_Check.j1]
        rw [if_neg (by simp), if_neg c0]
        by_cases c2 : x.f0 = (i : Int)
        · rw [if_pos c2, if_pos (by omega)]
        · rw [if_neg c2]
theorem check_ev : Ev (fun k => align_Check.f k a b l) (chk a b 0 0 l) := by
  have h := check_from ha hb hl l.length 0 0 0 (by omega) (by omega) (by omega)
  rw [List.drop_zero] at h
  exact h
set_option maxHeartbeats 2000000 in
theorem refcheck_from : ∀ (d p i j : Nat), p + d = l.length → i ≤ a.length → j ≤ b.length → Ev (fun k => signalbenchref54_Check.l0 k a b l (i : Int) (j : Int) (p : Int)) (chk a b i j (l.drop p)) := by
  intro d
  induction d with
  | zero =>
    intro p i j hp hi hj
    obtain rfl : p = l.length := by omega
    rw [List.drop_length]
    refine Ev.val 1 (fun k => ?_)
    simp only [signalbenchref54_Check.l0, chk]
    rw [if_neg (by omega)]
    by_cases c : i = a.length
    · rw [if_pos (by omega), decide_eq_true c, Bool.true_and]
      by_cases c' : j = b.length
      · rw [decide_eq_true c', beq_iff_eq.2 (by omega)]
      · rw [decide_eq_false c', beq_eq_false_iff_ne.2 (by omega)]
    · rw [if_neg (by omega), decide_eq_false c, Bool.false_and]
  | succ d ih =>
    intro p i j hp hi hj
    rw [rd_drop l p (by omega)]
    have W1 : Aside0 (wrap64 ((i : Int) + 1) = ((i + 1 : Nat) : Int)) := ⟨by rw [wr_in (by omega)]; omega⟩
    have W2 : Aside0 (wrap64 ((j : Int) + 1) = ((j + 1 : Nat) : Int)) := ⟨by rw [wr_in (by omega)]; omega⟩
    have W3 : Aside0 (wrap64 ((p : Int) + 1) = ((p + 1 : Nat) : Int)) := ⟨by rw [wr_in (by omega)]; omega⟩
    have lp : (p : Int) < l.length := by omega
    have lp0 : (0 : Int) ≤ p := by omega
    generalize hx : rd_T43 l (p : Int) = x
    have HX := Aside0.mk hx
    clear hx
    simp only [chk]
    by_cases c0 : x.f0 = -1
    · rw [if_pos c0]
      by_cases c1 : x.f1 = (j : Int) ∧ j < b.length
      · rw [if_pos c1]
        obtain ⟨c1, c2⟩ := c1
        refine Ev.steps 4 (fun k => ?_) (ih (p + 1) i (j + 1) (by omega) hi (by omega))
        simp only [signalbenchref54_Check.l0, HX.out]
        rw [if_pos lp, if_pos lp0, if_pos c0, if_neg (by omega)]
        simp only [signalbenchref54_Check.j1]
        rw [fal (bne_eq_false_iff_eq.2 c1), if_neg (by omega)]
        simp only [signalbenchref54_Check.j2]
        rw [fal (decide_eq_false (by omega)), if_neg (by omega)]
        simp only [signalbenchref54_Check.j3, W2.out, W3.out]
        rw [if_neg (by simp), if_neg (by omega), if_pos (by omega)]
      · rw [if_neg c1]
        by_cases c2 : x.f1 = -1
        · refine Ev.val 2 (fun k => ?_)
          simp only [signalbenchref54_Check.l0, HX.out]
          rw [if_pos lp, if_pos lp0, if_pos c0, if_pos c2]
          simp only [signalbenchref54_Check.j1]
          rw [if_pos trivial]
        · by_cases c3 : x.f1 = (j : Int)
          · refine Ev.val 3 (fun k => ?_)
            simp only [signalbenchref54_Check.l0, HX.out]
            rw [if_pos lp, if_pos lp0, if_pos c0, if_neg c2]
            simp only [signalbenchref54_Check.j1]
            rw [fal (bne_eq_false_iff_eq.2 c3), if_neg (by omega)]
            simp only [signalbenchref54_Check.j2]
            rw [tru (decide_eq_true (by omega))]
          · refine Ev.val 2 (fun k => ?_)
            simp only [signalbenchref54_Check.l0, HX.out]
            rw [if_pos lp, if_pos lp0, if_pos c0, if_neg c2]
            simp only [signalbenchref54_Check.j1]
            rw [tru (by rw [bne_iff_ne]; exact c3)]
    · rw [if_neg c0]
      by_cases c1 : x.f0 = (i : Int) ∧ i < a.length
      · rw [if_pos c1]
        obtain ⟨c1, c2⟩ := c1
        by_cases c3 : x.f1 = -1
        · rw [if_pos c3]
          refine Ev.steps 4 (fun k => ?_) (ih (p + 1) (i + 1) j (by omega) (by omega) hj)
          simp only [signalbenchref54_Check.l0, HX.out]
          rw [if_pos lp, if_pos lp0, if_neg c0, if_pos c1, if_pos c3]
          simp only [signalbenchref54_Check.j1]
          rw [if_neg (by simp), if_neg (by omega)]
          simp only [signalbenchref54_Check.j2]
          rw [fal (decide_eq_false (by omega)), if_pos (by omega), if_neg (by omega)]
          simp only [signalbenchref54_Check.j3, W1.out, W3.out]
          rw [if_neg (by simp), if_pos (by omega), if_neg (by omega)]
        · rw [if_neg c3]
          by_cases c4 : x.f1 = (j : Int) ∧ j < b.length ∧ (rdOf ByteArray.empty a i).toList = (rdOf ByteArray.empty b j).toList
          · rw [if_pos c4]
            obtain ⟨c4, c5, c6⟩ := c4
            refine Ev.steps 4 (fun k => ?_) (ih (p + 1) (i + 1) (j + 1) (by omega) (by omega) (by omega))
            simp only [signalbenchref54_Check.l0, HX.out]
            rw [if_pos lp, if_pos lp0, if_neg c0, if_pos c1, if_neg c3]
            simp only [signalbenchref54_Check.j1]
            rw [fal (bne_eq_false_iff_eq.2 c4), if_neg (by omega)]
            simp only [signalbenchref54_Check.j2]
            rw [fal (decide_eq_false (by omega)), if_pos (by omega), if_pos (by omega), if_pos (by omega), if_pos (by omega), if_pos (by omega), if_pos (by omega)]
            simp only [signalbenchref54_Check.j3, W1.out, W2.out, W3.out]
            rw [fal (by rw [bne_eq_false_iff_eq, c1, c4]; exact c6), if_pos (by omega), if_pos (by omega)]
          · rw [if_neg c4]
            by_cases c5 : x.f1 = (j : Int)
            · by_cases c6 : j < b.length
              · refine Ev.val 4 (fun k => ?_)
                simp only [signalbenchref54_Check.l0, HX.out]
                rw [if_pos lp, if_pos lp0, if_neg c0, if_pos c1, if_neg c3]
                simp only [signalbenchref54_Check.j1]
                rw [fal (bne_eq_false_iff_eq.2 c5), if_neg (by omega)]
                simp only [signalbenchref54_Check.j2]
                rw [fal (decide_eq_false (by omega)), if_pos (by omega), if_pos (by omega), if_pos (by omega), if_pos (by omega), if_pos (by omega), if_pos (by omega)]
                simp only [signalbenchref54_Check.j3]
                rw [tru (by rw [bne_iff_ne, c1, c5]; exact fun e => c4 ⟨c5, c6, e⟩)]
              · refine Ev.val 3 (fun k => ?_)
                simp only [signalbenchref54_Check.l0, HX.out]
                rw [if_pos lp, if_pos lp0, if_neg c0, if_pos c1, if_neg c3]
                simp only [signalbenchref54_Check.j1]
                rw [fal (bne_eq_false_iff_eq.2 c5), if_neg (by omega)]
                simp only [signalbenchref54_Check.j2]
                rw [tru (decide_eq_true (by omega))]
            · refine Ev.val 2 (fun k => ?_)
              simp only [signalbenchref54_Check.l0, HX.out]
              rw [if_pos lp, if_pos lp0, if_neg c0, if_pos c1, if_neg c3]
              simp only [signalbenchref54_Check.j1]
              rw [tru (by rw [bne_iff_ne]; exact c5)]
      · rw [if_neg c1]
        by_cases c2 : x.f0 = (i : Int)
        · by_cases c3 : x.f1 = -1
          · refine Ev.val 3 (fun k => ?_)
            simp only [signalbenchref54_Check.l0, HX.out]
            rw [if_pos lp, if_pos lp0, if_neg c0, if_pos c2, if_pos c3]
            simp only [signalbenchref54_Check.j1]
            rw [if_neg (by simp), if_pos (by omega)]
            simp only [signalbenchref54_Check.j2]
            rw [if_pos trivial]
          · by_cases c4 : x.f1 = (j : Int)
            · refine Ev.val 3 (fun k => ?_)
              simp only [signalbenchref54_Check.l0, HX.out]
              rw [if_pos lp, if_pos lp0, if_neg c0, if_pos c2, if_neg c3]
              simp only [signalbenchref54_Check.j1]
              rw [fal (bne_eq_false_iff_eq.2 c4), if_pos (by omega)]
              simp only [signalbenchref54_Check.j2]
              rw [if_pos trivial]
            · refine Ev.val 2 (fun k => ?_)
              simp only [signalbenchref54_Check.l0, HX.out]
              rw [if_pos lp, if_pos lp0, if_neg c0, if_pos c2, if_neg c3]
              simp only [signalbenchref54_Check.j1]
              rw [tru (by rw [bne_iff_ne]; exact c4)]
        · refine Ev.val 2 (fun k => ?_)
          simp only [signalbenchref54_Check.l0, HX.out]
          rw [if_pos lp, if_pos lp0, if_neg c0, if_neg c2]
          simp only [signalbenchref54_Check.j1]
          rw [if_pos trivial]
theorem refcheck_ev : Ev (fun k => signalbenchref54_Check.f k a b l) (chk a b 0 0 l) := by
  have h := refcheck_from ha hb hl l.length 0 0 0 (by omega) (by omega) (by omega)
  rw [List.drop_zero] at h
  exact h
end
end Go.Proofs.Ytbkncndagheijaa.H
