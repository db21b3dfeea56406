-- Printed by wip/hprint.py (this project's own driver of the kit's print) out of the translation; Lean checks it.
import Derived.Test.YtgdjiphljadlcaaK0
namespace Go.Proofs.Ytgdjiphljadlcaa.K
open Go.RowKit Go.Proofs.YtgdjiphljadlcaaW.PrintWords Go.Proofs.YtgdjiphljadlcaaW.PrintLast Go.Proofs.YtgdjiphljadlcaaW.PrintMore
attribute [local go_sem] max2_int min2_int max_two min_two max_three min_three max_four min_four   -- for this text's walks alone
set_option linter.unusedVariables false
set_option linter.unusedSimpArgs false

/-! ### trigauto_cond: function 46 -/
mutual
def trigauto_cond.j0 : Nat → Bool → Int → Int → Int → Int → Int → Option (Int)
 | 0, _, _, _, _, _, _ => none
 | k + 1, x7, x102000, x102001, x102002, x102003, x102004 => if x7 = true then (some 1) else (if x102003 = 0 then (if x102002 = 0 then (trigauto_cond.j1 k (x102004 != 0) x102000 x102001 x102002 x102003 x102004) else (trigauto_cond.j1 k true x102000 x102001 x102002 x102003 x102004)) else (trigauto_cond.j1 k false x102000 x102001 x102002 x102003 x102004))
def trigauto_cond.j1 : Nat → Bool → Int → Int → Int → Int → Int → Option (Int)
 | 0, _, _, _, _, _, _ => none
 | k + 1, x26, x102000, x102001, x102002, x102003, x102004 => if x26 = true then (some 1) else (if x102003 = 0 then (trigauto_cond.j2 k false x102000 x102001 x102002 x102003 x102004) else (if x102002 < 1 then (trigauto_cond.j2 k true x102000 x102001 x102002 x102003 x102004) else (trigauto_cond.j2 k (decide (x102002 > 6)) x102000 x102001 x102002 x102003 x102004)))
def trigauto_cond.j2 : Nat → Bool → Int → Int → Int → Int → Int → Option (Int)
 | 0, _, _, _, _, _, _ => none
 | k + 1, x40, x102000, x102001, x102002, x102003, x102004 => if x40 = true then (some 1) else (if x102004 < (-9007199254740992) then (some 2) else (if x102004 > 9007199254740992 then (some 2) else (some 0)))
end
def trigauto_cond.f (k : Nat) (a0_0 : Int) (a0_1 : Int) (a0_2 : Int) (a0_3 : Int) (a0_4 : Int) : Option (Int) := if a0_0 < (-1) then (some 2) else (if a0_1 < 0 then (trigauto_cond.j0 k true a0_0 a0_1 a0_2 a0_3 a0_4) else (if a0_1 > 8 then (trigauto_cond.j0 k true a0_0 a0_1 a0_2 a0_3 a0_4) else (if a0_3 < 0 then (trigauto_cond.j0 k true a0_0 a0_1 a0_2 a0_3 a0_4) else (trigauto_cond.j0 k (decide (a0_3 > 5)) a0_0 a0_1 a0_2 a0_3 a0_4))))
set_option maxHeartbeats 8000000 in
set_option maxRecDepth 100000 in
theorem trigauto_cond.calls (k : Nat) (a0_0 : Int) (a0_1 : Int) (a0_2 : Int) (a0_3 : Int) (a0_4 : Int) (r : Int) (w : World) (h : trigauto_cond.f k a0_0 a0_1 a0_2 a0_3 a0_4 = some r) :
  Calls Try.prog 46 #[.agg #[.int .i64 a0_0, .int .i64 a0_1, .int .i64 a0_2, .int .i64 a0_3, .int .i64 a0_4]] w fun e w' => e = .returned (.int .i64 r) ∧ Below w.heap.size w w' := by
 have hu42 := Try.underlying42
 have HB := Aside0.mk (Below.refl w.heap.size w)
 have H : (if a0_0 < (-1) then (some 2) else (if a0_1 < 0 then (trigauto_cond.j0 k true a0_0 a0_1 a0_2 a0_3 a0_4) else (if a0_1 > 8 then (trigauto_cond.j0 k true a0_0 a0_1 a0_2 a0_3 a0_4) else (if a0_3 < 0 then (trigauto_cond.j0 k true a0_0 a0_1 a0_2 a0_3 a0_4) else (trigauto_cond.j0 k (decide (a0_3 > 5)) a0_0 a0_1 a0_2 a0_3 a0_4))))) = some r := h
 clear h
 by_cases c2 : a0_0 < (-1)
 ·
  rw [if_pos c2] at H
  have c2b0 : decide (a0_0 < (-1)) = true := decide_eq_true c2
  clear c2
  obtain rfl := Option.some.inj H
  go_enter Try.func46, Try.ntmps46
  go_wp2_with (first | ((with_reducible refine gate_dst (N := 1) rfl ?_); refine box_event ?hg (N := 1) ?hd (cs := #[.int .i64 a0_0, .int .i64 a0_1, .int .i64 a0_2, .int .i64 a0_3, .int .i64 a0_4]) (t := 42) ?hr ?_; (case hd => rfl); (case hg => rfl); (case hr => first | (go_simp; done) | (go_simp; rfl)); intro gb101 hg w3 hbox hb; have n0_ := Aside0.mk (below_step (bs HB.out) hb); have n1_ := Aside0.mk (hbox); have n2_ := Aside0.mk ((by rw [hg]; exact (below_size (bs HB.out)) : w.heap.size ≤ gb101)); have n3_ := n2_; clear HB; have HB := n0_; have BK101 := n1_; have GW101 := n2_; have GE101 := n3_; clear n0_ n1_ n2_ n3_; clear hb hbox hg; obtain ⟨hcz4_0, hcz4_1, hcz4_2, hcz4_3, hcz4_4⟩ := bc5 BK101.out; obtain ⟨hfz4_0, hfz4_1, hfz4_2, hfz4_3, hfz4_4⟩ := bf5 BK101.out))
  go_ret
  exact ⟨by first | rfl | (simp [errW_none, errW_some] <;> rfl) | (simp [*, errW_none, errW_some] <;> rfl), bs HB.out⟩
 ·
  rw [if_neg c2] at H
  have c2b0 : decide (a0_0 < (-1)) = false := decide_eq_false c2
  clear c2
  have HC5 := Aside0.mk H
  clear H
  go_enter Try.func46, Try.ntmps46
  go_upto_region 3 with (first | ((with_reducible refine gate_dst (N := 1) rfl ?_); refine box_event ?hg (N := 1) ?hd (cs := #[.int .i64 a0_0, .int .i64 a0_1, .int .i64 a0_2, .int .i64 a0_3, .int .i64 a0_4]) (t := 42) ?hr ?_; (case hd => rfl); (case hg => rfl); (case hr => first | (go_simp; done) | (go_simp; rfl)); intro gb101 hg w6 hbox hb; have n0_ := Aside0.mk (below_step (bs HB.out) hb); have n1_ := Aside0.mk (hbox); have n2_ := Aside0.mk ((by rw [hg]; exact (below_size (bs HB.out)) : w.heap.size ≤ gb101)); have n3_ := n2_; clear HB; have HB := n0_; have BK101 := n1_; have GW101 := n2_; have GE101 := n3_; clear n0_ n1_ n2_ n3_; clear hb hbox hg; obtain ⟨hcz7_0, hcz7_1, hcz7_2, hcz7_3, hcz7_4⟩ := bc5 BK101.out; obtain ⟨hfz7_0, hfz7_1, hfz7_2, hfz7_3, hfz7_4⟩ := bf5 BK101.out))
  (try simp only [Act.put, List.setIfInBounds_toArray, List.set_cons_zero, List.set_cons_succ])
  go_cut [7] (fun v7 wc => ∃ (kq : Nat) (x7_4 : Bool), v7 = .bool x7_4 ∧ Aside0 (trigauto_cond.j0 kq x7_4 a0_0 a0_1 a0_2 a0_3 a0_4 = some r) ∧ Aside0 (kq ≤ k) ∧ Aside0 (wc.heap[gb101]? = some (.cells #[.int .i64 a0_0, .int .i64 a0_1, .int .i64 a0_2, .int .i64 a0_3, .int .i64 a0_4] 42 (0, 0))) ∧ Aside0 (Below w.heap.size w wc))
  case first =>
   have H := HC5.out
   clear HC5
   by_cases c8 : a0_1 < 0
   ·
    rw [if_pos c8] at H
    have c8b0 : decide (a0_1 < 0) = true := decide_eq_true c8
    clear c8
    (first | rw [c8b0] | (simp only [i64_w, i32_w]; rw [c8b0]) | skip)
    have H' := Aside0.mk H
    clear H
    obtain ⟨hcz9_0, hcz9_1, hcz9_2, hcz9_3, hcz9_4⟩ := bc5 BK101.out
    obtain ⟨hfz9_0, hfz9_1, hfz9_2, hfz9_3, hfz9_4⟩ := bf5 BK101.out
    go_wp2
    go_meet
    case rel => exact ⟨_, (true), (by first | rfl | (simp; done) | (simp [*]; done)), H', ⟨by first | omega | exact Nat.le_refl _⟩, ⟨bg BK101.out⟩, ⟨bs HB.out⟩⟩
   ·
    rw [if_neg c8] at H
    have c8b0 : decide (a0_1 < 0) = false := decide_eq_false c8
    clear c8
    (first | rw [c8b0] | (simp only [i64_w, i32_w]; rw [c8b0]) | skip)
    by_cases c10 : a0_1 > 8
    ·
     rw [if_pos c10] at H
     have c10b0 : decide (8 < a0_1) = true := decide_eq_true c10
     clear c10
     have H' := Aside0.mk H
     clear H
     obtain ⟨hcz11_0, hcz11_1, hcz11_2, hcz11_3, hcz11_4⟩ := bc5 BK101.out
     obtain ⟨hfz11_0, hfz11_1, hfz11_2, hfz11_3, hfz11_4⟩ := bf5 BK101.out
     go_wp2
     go_meet
     case rel => exact ⟨_, (true), (by first | rfl | (simp; done) | (simp [*]; done)), H', ⟨by first | omega | exact Nat.le_refl _⟩, ⟨bg BK101.out⟩, ⟨bs HB.out⟩⟩
    ·
     rw [if_neg c10] at H
     have c10b0 : decide (8 < a0_1) = false := decide_eq_false c10
     clear c10
     by_cases c12 : a0_3 < 0
     ·
      rw [if_pos c12] at H
      have c12b0 : decide (a0_3 < 0) = true := decide_eq_true c12
      clear c12
      have H' := Aside0.mk H
      clear H
      obtain ⟨hcz13_0, hcz13_1, hcz13_2, hcz13_3, hcz13_4⟩ := bc5 BK101.out
      obtain ⟨hfz13_0, hfz13_1, hfz13_2, hfz13_3, hfz13_4⟩ := bf5 BK101.out
      go_wp2
      go_meet
      case rel => exact ⟨_, (true), (by first | rfl | (simp; done) | (simp [*]; done)), H', ⟨by first | omega | exact Nat.le_refl _⟩, ⟨bg BK101.out⟩, ⟨bs HB.out⟩⟩
     ·
      rw [if_neg c12] at H
      have c12b0 : decide (a0_3 < 0) = false := decide_eq_false c12
      clear c12
      have H' := Aside0.mk H
      clear H
      obtain ⟨hcz14_0, hcz14_1, hcz14_2, hcz14_3, hcz14_4⟩ := bc5 BK101.out
      obtain ⟨hfz14_0, hfz14_1, hfz14_2, hfz14_3, hfz14_4⟩ := bf5 BK101.out
      go_wp2
      go_meet
      case rel => exact ⟨_, (decide (a0_3 > 5)), (by first | rfl | (simp; done) | (simp [*]; done)), H', ⟨by first | omega | exact Nat.le_refl _⟩, ⟨bg BK101.out⟩, ⟨bs HB.out⟩⟩
  case rest =>
   clear HC5
   try clear c1
   try clear c2
   try clear c2b0
   try clear p2
   try clear c4
   try clear c8
   try clear c8b0
   try clear c10
   try clear c10b0
   try clear c12
   try clear c12b0
   try clear hcz11_0 hcz11_1 hcz11_2 hcz11_3 hcz11_4
   try clear hcz13_0 hcz13_1 hcz13_2 hcz13_3 hcz13_4
   try clear hcz14_0 hcz14_1 hcz14_2 hcz14_3 hcz14_4
   try clear hcz4_0 hcz4_1 hcz4_2 hcz4_3 hcz4_4
   try clear hcz7_0 hcz7_1 hcz7_2 hcz7_3 hcz7_4
   try clear hcz9_0 hcz9_1 hcz9_2 hcz9_3 hcz9_4
   try clear hfz11_0 hfz11_1 hfz11_2 hfz11_3 hfz11_4
   try clear hfz13_0 hfz13_1 hfz13_2 hfz13_3 hfz13_4
   try clear hfz14_0 hfz14_1 hfz14_2 hfz14_3 hfz14_4
   try clear hfz4_0 hfz4_1 hfz4_2 hfz4_3 hfz4_4
   try clear hfz7_0 hfz7_1 hfz7_2 hfz7_3 hfz7_4
   try clear hfz9_0 hfz9_1 hfz9_2 hfz9_3 hfz9_4
   obtain ⟨kq, x7_4, rfl, HA, HJ4, BK101, HB⟩ := hcut
   cases kq with
   | zero => exact absurd HA.out (by simp [trigauto_cond.j0])
   | succ kj4 =>
    have H := HA.out
    clear HA
    simp only [trigauto_cond.j0] at H
    by_cases c15 : x7_4 = true
    ·
     subst c15
     have H1 : (some 1) = some r := by rw [if_pos rfl] at H; exact H
     clear H
     have H := H1
     clear H1
     obtain rfl := Option.some.inj H
     go_wp2
     go_ret
     exact ⟨by first | rfl | (simp [errW_none, errW_some] <;> rfl) | (simp [*, errW_none, errW_some] <;> rfl), bs HB.out⟩
    ·
     replace c15 := Bool.eq_false_iff.mpr c15
     subst c15
     have H1 : (if a0_3 = 0 then (if a0_2 = 0 then (trigauto_cond.j1 kj4 (a0_4 != 0) a0_0 a0_1 a0_2 a0_3 a0_4) else (trigauto_cond.j1 kj4 true a0_0 a0_1 a0_2 a0_3 a0_4)) else (trigauto_cond.j1 kj4 false a0_0 a0_1 a0_2 a0_3 a0_4)) = some r := by rw [if_neg (show ¬ (false = true) by decide)] at H; exact H
     clear H
     have H := H1
     clear H1
     have HC16 := Aside0.mk H
     clear H
     go_upto_region 5 with (fail)
     go_cut [26] (fun v26 wc => ∃ (kq : Nat) (x26_15 : Bool), v26 = .bool x26_15 ∧ Aside0 (trigauto_cond.j1 kq x26_15 a0_0 a0_1 a0_2 a0_3 a0_4 = some r) ∧ Aside0 (kq ≤ kj4) ∧ Aside0 (wc.heap[gb101]? = some (.cells #[.int .i64 a0_0, .int .i64 a0_1, .int .i64 a0_2, .int .i64 a0_3, .int .i64 a0_4] 42 (0, 0))) ∧ Aside0 (Below w.heap.size w wc))
     case first =>
      have H := HC16.out
      clear HC16
      by_cases c17 : a0_3 = 0
      ·
       rw [if_pos c17] at H
       have c17b0 : (a0_3 == 0) = true := beq_iff_eq.mpr c17
       have c17b1 : (a0_3 != 0) = false := bne_eq_false_iff_eq.mpr c17
       clear c17
       (first | rw [c17b0] | (simp only [i64_w, i32_w]; rw [c17b0]) | skip)
       by_cases c18 : a0_2 = 0
       ·
        rw [if_pos c18] at H
        have c18b0 : (a0_2 == 0) = true := beq_iff_eq.mpr c18
        have c18b1 : (a0_2 != 0) = false := bne_eq_false_iff_eq.mpr c18
        clear c18
        have H' := Aside0.mk H
        clear H
        obtain ⟨hcz19_0, hcz19_1, hcz19_2, hcz19_3, hcz19_4⟩ := bc5 BK101.out
        obtain ⟨hfz19_0, hfz19_1, hfz19_2, hfz19_3, hfz19_4⟩ := bf5 BK101.out
        go_wp2
        go_meet
        case rel => exact ⟨_, ((a0_4 != 0)), (by first | rfl | (simp; done) | (simp [*]; done)), H', ⟨by have := HJ4.out; first | omega | exact Nat.le_refl _⟩, ⟨bg BK101.out⟩, ⟨bs HB.out⟩⟩
       ·
        rw [if_neg c18] at H
        have c18b0 : (a0_2 == 0) = false := beq_eq_false_iff_ne.mpr c18
        have c18b1 : (a0_2 != 0) = true := bne_iff_ne.mpr c18
        have H' := Aside0.mk H
        clear H
        obtain ⟨hcz20_0, hcz20_1, hcz20_2, hcz20_3, hcz20_4⟩ := bc5 BK101.out
        obtain ⟨hfz20_0, hfz20_1, hfz20_2, hfz20_3, hfz20_4⟩ := bf5 BK101.out
        go_wp2
        go_meet
        case rel => exact ⟨_, (true), (by first | rfl | (simp; done) | (simp [*]; done)), H', ⟨by have := HJ4.out; first | omega | exact Nat.le_refl _⟩, ⟨bg BK101.out⟩, ⟨bs HB.out⟩⟩
      ·
       rw [if_neg c17] at H
       have c17b0 : (a0_3 == 0) = false := beq_eq_false_iff_ne.mpr c17
       have c17b1 : (a0_3 != 0) = true := bne_iff_ne.mpr c17
       (first | rw [c17b0] | (simp only [i64_w, i32_w]; rw [c17b0]) | skip)
       have H' := Aside0.mk H
       clear H
       obtain ⟨hcz21_0, hcz21_1, hcz21_2, hcz21_3, hcz21_4⟩ := bc5 BK101.out
       obtain ⟨hfz21_0, hfz21_1, hfz21_2, hfz21_3, hfz21_4⟩ := bf5 BK101.out
       go_wp2
       go_meet
       case rel => exact ⟨_, (false), (by first | rfl | (simp; done) | (simp [*]; done)), H', ⟨by have := HJ4.out; first | omega | exact Nat.le_refl _⟩, ⟨bg BK101.out⟩, ⟨bs HB.out⟩⟩
     case rest =>
      clear HC16
      try clear c1
      try clear c2
      try clear c2b0
      try clear p2
      try clear c4
      try clear c8
      try clear c8b0
      try clear c10
      try clear c10b0
      try clear c12
      try clear c12b0
      try clear c15
      try clear c17
      try clear c17b0
      try clear c17b1
      try clear c18
      try clear c18b0
      try clear c18b1
      try clear hcz11_0 hcz11_1 hcz11_2 hcz11_3 hcz11_4
      try clear hcz13_0 hcz13_1 hcz13_2 hcz13_3 hcz13_4
      try clear hcz14_0 hcz14_1 hcz14_2 hcz14_3 hcz14_4
      try clear hcz19_0 hcz19_1 hcz19_2 hcz19_3 hcz19_4
      try clear hcz20_0 hcz20_1 hcz20_2 hcz20_3 hcz20_4
      try clear hcz21_0 hcz21_1 hcz21_2 hcz21_3 hcz21_4
      try clear hcz4_0 hcz4_1 hcz4_2 hcz4_3 hcz4_4
      try clear hcz7_0 hcz7_1 hcz7_2 hcz7_3 hcz7_4
      try clear hcz9_0 hcz9_1 hcz9_2 hcz9_3 hcz9_4
      try clear hfz11_0 hfz11_1 hfz11_2 hfz11_3 hfz11_4
      try clear hfz13_0 hfz13_1 hfz13_2 hfz13_3 hfz13_4
      try clear hfz14_0 hfz14_1 hfz14_2 hfz14_3 hfz14_4
      try clear hfz19_0 hfz19_1 hfz19_2 hfz19_3 hfz19_4
      try clear hfz20_0 hfz20_1 hfz20_2 hfz20_3 hfz20_4
      try clear hfz21_0 hfz21_1 hfz21_2 hfz21_3 hfz21_4
      try clear hfz4_0 hfz4_1 hfz4_2 hfz4_3 hfz4_4
      try clear hfz7_0 hfz7_1 hfz7_2 hfz7_3 hfz7_4
      try clear hfz9_0 hfz9_1 hfz9_2 hfz9_3 hfz9_4
      try clear p2
      obtain ⟨kq, x26_15, rfl, HA, HJ15, BK101, HB⟩ := hcut
      cases kq with
      | zero => exact absurd HA.out (by simp [trigauto_cond.j1])
      | succ kj15 =>
       have H := HA.out
       clear HA
       simp only [trigauto_cond.j1] at H
       by_cases c22 : x26_15 = true
       ·
        subst c22
        have H1 : (some 1) = some r := by rw [if_pos rfl] at H; exact H
        clear H
        have H := H1
        clear H1
        obtain rfl := Option.some.inj H
        go_wp2
        go_ret
        exact ⟨by first | rfl | (simp [errW_none, errW_some] <;> rfl) | (simp [*, errW_none, errW_some] <;> rfl), bs HB.out⟩
       ·
        replace c22 := Bool.eq_false_iff.mpr c22
        subst c22
        have H1 : (if a0_3 = 0 then (trigauto_cond.j2 kj15 false a0_0 a0_1 a0_2 a0_3 a0_4) else (if a0_2 < 1 then (trigauto_cond.j2 kj15 true a0_0 a0_1 a0_2 a0_3 a0_4) else (trigauto_cond.j2 kj15 (decide (a0_2 > 6)) a0_0 a0_1 a0_2 a0_3 a0_4))) = some r := by rw [if_neg (show ¬ (false = true) by decide)] at H; exact H
        clear H
        have H := H1
        clear H1
        have HC23 := Aside0.mk H
        clear H
        go_upto_region 7 with (fail)
        go_cut [40] (fun v40 wc => ∃ (kq : Nat) (x40_22 : Bool), v40 = .bool x40_22 ∧ Aside0 (trigauto_cond.j2 kq x40_22 a0_0 a0_1 a0_2 a0_3 a0_4 = some r) ∧ Aside0 (kq ≤ kj15) ∧ Aside0 (wc.heap[gb101]? = some (.cells #[.int .i64 a0_0, .int .i64 a0_1, .int .i64 a0_2, .int .i64 a0_3, .int .i64 a0_4] 42 (0, 0))) ∧ Aside0 (Below w.heap.size w wc))
        case first =>
         have H := HC23.out
         clear HC23
         by_cases c24 : a0_3 = 0
         ·
          rw [if_pos c24] at H
          have c24b0 : (a0_3 == 0) = true := beq_iff_eq.mpr c24
          have c24b1 : (a0_3 != 0) = false := bne_eq_false_iff_eq.mpr c24
          clear c24
          (first | rw [c24b0] | (simp only [i64_w, i32_w]; rw [c24b0]) | skip)
          have H' := Aside0.mk H
          clear H
          obtain ⟨hcz25_0, hcz25_1, hcz25_2, hcz25_3, hcz25_4⟩ := bc5 BK101.out
          obtain ⟨hfz25_0, hfz25_1, hfz25_2, hfz25_3, hfz25_4⟩ := bf5 BK101.out
          go_wp2
          go_meet
          case rel => exact ⟨_, (false), (by first | rfl | (simp; done) | (simp [*]; done)), H', ⟨by have := HJ4.out; have := HJ15.out; first | omega | exact Nat.le_refl _⟩, ⟨bg BK101.out⟩, ⟨bs HB.out⟩⟩
         ·
          rw [if_neg c24] at H
          have c24b0 : (a0_3 == 0) = false := beq_eq_false_iff_ne.mpr c24
          have c24b1 : (a0_3 != 0) = true := bne_iff_ne.mpr c24
          (first | rw [c24b0] | (simp only [i64_w, i32_w]; rw [c24b0]) | skip)
          by_cases c26 : a0_2 < 1
          ·
           rw [if_pos c26] at H
           have c26b0 : decide (a0_2 < 1) = true := decide_eq_true c26
           clear c26
           have H' := Aside0.mk H
           clear H
           obtain ⟨hcz27_0, hcz27_1, hcz27_2, hcz27_3, hcz27_4⟩ := bc5 BK101.out
           obtain ⟨hfz27_0, hfz27_1, hfz27_2, hfz27_3, hfz27_4⟩ := bf5 BK101.out
           go_wp2
           go_meet
           case rel => exact ⟨_, (true), (by first | rfl | (simp; done) | (simp [*]; done)), H', ⟨by have := HJ4.out; have := HJ15.out; first | omega | exact Nat.le_refl _⟩, ⟨bg BK101.out⟩, ⟨bs HB.out⟩⟩
          ·
           rw [if_neg c26] at H
           have c26b0 : decide (a0_2 < 1) = false := decide_eq_false c26
           clear c26
           have H' := Aside0.mk H
           clear H
           obtain ⟨hcz28_0, hcz28_1, hcz28_2, hcz28_3, hcz28_4⟩ := bc5 BK101.out
           obtain ⟨hfz28_0, hfz28_1, hfz28_2, hfz28_3, hfz28_4⟩ := bf5 BK101.out
           go_wp2
           go_meet
           case rel => exact ⟨_, (decide (a0_2 > 6)), (by first | rfl | (simp; done) | (simp [*]; done)), H', ⟨by have := HJ4.out; have := HJ15.out; first | omega | exact Nat.le_refl _⟩, ⟨bg BK101.out⟩, ⟨bs HB.out⟩⟩
        case rest =>
         clear HC23
         try clear c1
         try clear c2
         try clear c2b0
         try clear p2
         try clear c4
         try clear c8
         try clear c8b0
         try clear c10
         try clear c10b0
         try clear c12
         try clear c12b0
         try clear c15
         try clear c17
         try clear c17b0
         try clear c17b1
         try clear c18
         try clear c18b0
         try clear c18b1
         try clear c22
         try clear c24
         try clear c24b0
         try clear c24b1
         try clear c26
         try clear c26b0
         try clear hcz11_0 hcz11_1 hcz11_2 hcz11_3 hcz11_4
         try clear hcz13_0 hcz13_1 hcz13_2 hcz13_3 hcz13_4
         try clear hcz14_0 hcz14_1 hcz14_2 hcz14_3 hcz14_4
         try clear hcz19_0 hcz19_1 hcz19_2 hcz19_3 hcz19_4
         try clear hcz20_0 hcz20_1 hcz20_2 hcz20_3 hcz20_4
         try clear hcz21_0 hcz21_1 hcz21_2 hcz21_3 hcz21_4
         try clear hcz25_0 hcz25_1 hcz25_2 hcz25_3 hcz25_4
         try clear hcz27_0 hcz27_1 hcz27_2 hcz27_3 hcz27_4
         try clear hcz28_0 hcz28_1 hcz28_2 hcz28_3 hcz28_4
         try clear hcz4_0 hcz4_1 hcz4_2 hcz4_3 hcz4_4
         try clear hcz7_0 hcz7_1 hcz7_2 hcz7_3 hcz7_4
         try clear hcz9_0 hcz9_1 hcz9_2 hcz9_3 hcz9_4
         try clear hfz11_0 hfz11_1 hfz11_2 hfz11_3 hfz11_4
         try clear hfz13_0 hfz13_1 hfz13_2 hfz13_3 hfz13_4
         try clear hfz14_0 hfz14_1 hfz14_2 hfz14_3 hfz14_4
         try clear hfz19_0 hfz19_1 hfz19_2 hfz19_3 hfz19_4
         try clear hfz20_0 hfz20_1 hfz20_2 hfz20_3 hfz20_4
         try clear hfz21_0 hfz21_1 hfz21_2 hfz21_3 hfz21_4
         try clear hfz25_0 hfz25_1 hfz25_2 hfz25_3 hfz25_4
         try clear hfz27_0 hfz27_1 hfz27_2 hfz27_3 hfz27_4
         try clear hfz28_0 hfz28_1 hfz28_2 hfz28_3 hfz28_4
         try clear hfz4_0 hfz4_1 hfz4_2 hfz4_3 hfz4_4
         try clear hfz7_0 hfz7_1 hfz7_2 hfz7_3 hfz7_4
         try clear hfz9_0 hfz9_1 hfz9_2 hfz9_3 hfz9_4
         try clear p2
         obtain ⟨kq, x40_22, rfl, HA, HJ22, BK101, HB⟩ := hcut
         cases kq with
         | zero => exact absurd HA.out (by simp [trigauto_cond.j2])
         | succ kj22 =>
          have H := HA.out
          clear HA
          simp only [trigauto_cond.j2] at H
          by_cases c29 : x40_22 = true
          ·
           subst c29
           have H1 : (some 1) = some r := by rw [if_pos rfl] at H; exact H
           clear H
           have H := H1
           clear H1
           obtain rfl := Option.some.inj H
           go_wp2
           go_ret
           exact ⟨by first | rfl | (simp [errW_none, errW_some] <;> rfl) | (simp [*, errW_none, errW_some] <;> rfl), bs HB.out⟩
          ·
           replace c29 := Bool.eq_false_iff.mpr c29
           subst c29
           have H1 : (if a0_4 < (-9007199254740992) then (some 2) else (if a0_4 > 9007199254740992 then (some 2) else (some 0))) = some r := by rw [if_neg (show ¬ (false = true) by decide)] at H; exact H
           clear H
           have H := H1
           clear H1
           by_cases c30 : a0_4 < (-9007199254740992)
           ·
            rw [if_pos c30] at H
            have c30b0 : decide (a0_4 < (-9007199254740992)) = true := decide_eq_true c30
            clear c30
            obtain rfl := Option.some.inj H
            obtain ⟨hcz31_0, hcz31_1, hcz31_2, hcz31_3, hcz31_4⟩ := bc5 BK101.out
            obtain ⟨hfz31_0, hfz31_1, hfz31_2, hfz31_3, hfz31_4⟩ := bf5 BK101.out
            go_wp2
            go_ret
            exact ⟨by first | rfl | (simp [errW_none, errW_some] <;> rfl) | (simp [*, errW_none, errW_some] <;> rfl), bs HB.out⟩
           ·
            rw [if_neg c30] at H
            have c30b0 : decide (a0_4 < (-9007199254740992)) = false := decide_eq_false c30
            clear c30
            by_cases c32 : a0_4 > 9007199254740992
            ·
             rw [if_pos c32] at H
             have c32b0 : decide (9007199254740992 < a0_4) = true := decide_eq_true c32
             clear c32
             obtain rfl := Option.some.inj H
             obtain ⟨hcz33_0, hcz33_1, hcz33_2, hcz33_3, hcz33_4⟩ := bc5 BK101.out
             obtain ⟨hfz33_0, hfz33_1, hfz33_2, hfz33_3, hfz33_4⟩ := bf5 BK101.out
             go_wp2
             go_ret
             exact ⟨by first | rfl | (simp [errW_none, errW_some] <;> rfl) | (simp [*, errW_none, errW_some] <;> rfl), bs HB.out⟩
            ·
             rw [if_neg c32] at H
             have c32b0 : decide (9007199254740992 < a0_4) = false := decide_eq_false c32
             clear c32
             obtain rfl := Option.some.inj H
             obtain ⟨hcz34_0, hcz34_1, hcz34_2, hcz34_3, hcz34_4⟩ := bc5 BK101.out
             obtain ⟨hfz34_0, hfz34_1, hfz34_2, hfz34_3, hfz34_4⟩ := bf5 BK101.out
             go_wp2
             go_ret
             exact ⟨by first | rfl | (simp [errW_none, errW_some] <;> rfl) | (simp [*, errW_none, errW_some] <;> rfl), bs HB.out⟩

end Go.Proofs.Ytgdjiphljadlcaa.K
