-- Printed by wip/hprint.py (this project's own driver of the kit's print) out of the translation; Lean checks it.
import Derived.Test.YtgdjiphljadlcaaK0
import Derived.Test.YtgdjiphljadlcaaK8
namespace Go.Proofs.Ytgdjiphljadlcaa.K
open Go.RowKit Go.Proofs.YtgdjiphljadlcaaW.PrintWords Go.Proofs.YtgdjiphljadlcaaW.PrintLast Go.Proofs.YtgdjiphljadlcaaW.PrintMore
attribute [local go_sem] max2_int min2_int max_two min_two max_three min_three max_four min_four   -- for this text's walks alone
set_option linter.unusedVariables false
set_option linter.unusedSimpArgs false

/-! ### search_follows: function 58 -/
mutual
def search_follows.j0 : Nat → List (S46) → Int → Int → Bool → Int → Int → Int → Int → Int → Int → Bool → Int → Int → Int → Int → Int → Option (Bool)
 | 0, _, _, _, _, _, _, _, _, _, _, _, _, _, _, _, _ => none
 | k + 1, x1, x2, x3, x34, x123000, x123001, x123002, x123003, x123004, x123005, x123006, x123007, x123008, x123009, x123010, x123011 => if x34 = true then (some false) else (if 0 ≤ (wrap64 (x2 + 1)) then (if (wrap64 (x2 + 1)) ≤ x3 then (if x3 ≤ (x1.length : Int) then ((some ((x1.take (x3 : Int).toNat).drop ((wrap64 (x2 + 1)) : Int).toNat : List (S46))).bind fun y125 => (search_follows.l0 k y125 (y125.length : Int) 0 x123000 x123001 x123002 x123003 x123004 x123005 x123006 x123007 x123008 x123009 x123010 x123011)) else (none)) else (none)) else (none))
def search_follows.l0 : Nat → List (S46) → Int → Int → Int → Int → Int → Int → Int → Int → Bool → Int → Int → Int → Int → Int → Option (Bool)
 | 0, _, _, _, _, _, _, _, _, _, _, _, _, _, _, _ => none
 | k + 1, x39, x40, x41, x123000, x123001, x123002, x123003, x123004, x123005, x123006, x123007, x123008, x123009, x123010, x123011 => if x41 < x40 then (if 0 ≤ x41 then (if x41 < (x39.length : Int) then ((search_forbids.f k x123000 x123001 x123002 x123003 x123004 x123005 x123006 x123007 x123008 x123009 x123010 x123011 ((rd_T46 x39 x41).f0) ((rd_T46 x39 x41).f1) ((rd_T46 x39 x41).f2.f0) ((rd_T46 x39 x41).f2.f1) ((rd_T46 x39 x41).f2.f2) ((rd_T46 x39 x41).f2.f3) ((rd_T46 x39 x41).f2.f4) ((rd_T46 x39 x41).f2.f5) ((rd_T46 x39 x41).f2.f6)).bind fun t131 => (if t131 = true then (some false) else (search_follows.l0 k x39 x40 (wrap64 (x41 + 1)) x123000 x123001 x123002 x123003 x123004 x123005 x123006 x123007 x123008 x123009 x123010 x123011))) else (none)) else (none)) else (some true)
end
def search_follows.f (k : Nat) (a0_0 : Int) (a0_1 : Int) (a0_2 : Int) (a0_3 : Int) (a0_4 : Int) (a0_5 : Int) (a0_6 : Bool) (a0_7 : Int) (a0_8 : Int) (a0_9 : Int) (a0_10 : Int) (a0_11 : Int) (l1 : List (S46)) (a2 : Int) (a3 : Int) : Option (Bool) := if a2 ≥ a3 then (search_follows.j0 k l1 a2 a3 true a0_0 a0_1 a0_2 a0_3 a0_4 a0_5 a0_6 a0_7 a0_8 a0_9 a0_10 a0_11) else (if a0_5 = 0 then (search_follows.j0 k l1 a2 a3 false a0_0 a0_1 a0_2 a0_3 a0_4 a0_5 a0_6 a0_7 a0_8 a0_9 a0_10 a0_11) else (if 0 ≤ a3 then (if a3 < (l1.length : Int) then (if 0 ≤ a2 then (if a2 < (l1.length : Int) then (search_follows.j0 k l1 a2 a3 (decide ((wrap64 (((rd_T46 l1 a3).f1) - ((rd_T46 l1 a2).f1))) > a0_5)) a0_0 a0_1 a0_2 a0_3 a0_4 a0_5 a0_6 a0_7 a0_8 a0_9 a0_10 a0_11) else (none)) else (none)) else (none)) else (none)))
set_option maxHeartbeats 8000000 in
set_option maxRecDepth 100000 in
theorem search_follows.calls (k : Nat) (a0_0 : Int) (a0_1 : Int) (a0_2 : Int) (a0_3 : Int) (a0_4 : Int) (a0_5 : Int) (a0_6 : Bool) (a0_7 : Int) (a0_8 : Int) (a0_9 : Int) (a0_10 : Int) (a0_11 : Int) (A1 : Option Addr) (c1 : Nat) (l1 : List (S46)) (a2 : Int) (a3 : Int) (r : Bool) (w : World) (hr1 : Kd.C k46 w A1 l1.length l1) (hc1 : l1.length ≤ c1) (h : search_follows.f k a0_0 a0_1 a0_2 a0_3 a0_4 a0_5 a0_6 a0_7 a0_8 a0_9 a0_10 a0_11 l1 a2 a3 = some r) :
  Calls Try.prog 58 #[.agg #[.int .i64 a0_0, .int .i64 a0_1, .int .i64 a0_2, .int .i64 a0_3, .int .i64 a0_4, .int .i64 a0_5, .bool a0_6, .int .i64 a0_7, .int .i64 a0_8, .int .i64 a0_9, .int .i64 a0_10, .int .i64 a0_11], .slice A1 l1.length c1, .int .i64 a2, .int .i64 a3] w fun e w' => e = .returned (.bool r) ∧ Below w.heap.size w w' := by
 have hu50 := Try.underlying50
 have hu46 := Try.underlying46
 have HR1 := Aside0.mk hr1
 have HC1 := Aside0.mk hc1
 clear hr1 hc1
 have HB := Aside0.mk (Below.refl w.heap.size w)
 have H : (if a2 ≥ a3 then (search_follows.j0 k l1 a2 a3 true a0_0 a0_1 a0_2 a0_3 a0_4 a0_5 a0_6 a0_7 a0_8 a0_9 a0_10 a0_11) else (if a0_5 = 0 then (search_follows.j0 k l1 a2 a3 false a0_0 a0_1 a0_2 a0_3 a0_4 a0_5 a0_6 a0_7 a0_8 a0_9 a0_10 a0_11) else (if 0 ≤ a3 then (if a3 < (l1.length : Int) then (if 0 ≤ a2 then (if a2 < (l1.length : Int) then (search_follows.j0 k l1 a2 a3 (decide ((wrap64 (((rd_T46 l1 a3).f1) - ((rd_T46 l1 a2).f1))) > a0_5)) a0_0 a0_1 a0_2 a0_3 a0_4 a0_5 a0_6 a0_7 a0_8 a0_9 a0_10 a0_11) else (none)) else (none)) else (none)) else (none)))) = some r := h
 clear h
 have HC5 := Aside0.mk H
 clear H
 go_enter Try.func58, Try.ntmps58
 go_upto_region 1 with (first | ((with_reducible refine gate_dst (N := 4) rfl ?_); refine box_event ?hg (N := 4) ?hd (cs := #[.int .i64 a0_0, .int .i64 a0_1, .int .i64 a0_2, .int .i64 a0_3, .int .i64 a0_4, .int .i64 a0_5, .bool a0_6, .int .i64 a0_7, .int .i64 a0_8, .int .i64 a0_9, .int .i64 a0_10, .int .i64 a0_11]) (t := 50) ?hr ?_; (case hd => rfl); (case hg => rfl); (case hr => first | (go_simp; done) | (go_simp; rfl)); intro gb122 hg w6 hbox hb; have n0_ := Aside0.mk (below_step (bs HB.out) hb); have n1_ := Aside0.mk (hbox); have n2_ := Aside0.mk ((by rw [hg]; exact (below_size (bs HB.out)) : w.heap.size ≤ gb122)); have n3_ := n2_; clear HB; have HB := n0_; have BK122 := n1_; have GW122 := n2_; have GE122 := n3_; clear n0_ n1_ n2_ n3_; clear hb hbox hg))
 repeat (go_quiet (first | ((with_reducible refine gate_dst (N := 4) rfl ?_); refine box_event ?hg (N := 4) ?hd (cs := #[.int .i64 a0_0, .int .i64 a0_1, .int .i64 a0_2, .int .i64 a0_3, .int .i64 a0_4, .int .i64 a0_5, .bool a0_6, .int .i64 a0_7, .int .i64 a0_8, .int .i64 a0_9, .int .i64 a0_10, .int .i64 a0_11]) (t := 50) ?hr ?_; (case hd => rfl); (case hg => rfl); (case hr => first | (go_simp; done) | (go_simp; rfl)); intro gb122 hg w6 hbox hb; have n0_ := Aside0.mk (below_step (bs HB.out) hb); have n1_ := Aside0.mk (hbox); have n2_ := Aside0.mk ((by rw [hg]; exact (below_size (bs HB.out)) : w.heap.size ≤ gb122)); have n3_ := n2_; clear HB; have HB := n0_; have BK122 := n1_; have GW122 := n2_; have GE122 := n3_; clear n0_ n1_ n2_ n3_; clear hb hbox hg)); go_upto_region 1 with (first | ((with_reducible refine gate_dst (N := 4) rfl ?_); refine box_event ?hg (N := 4) ?hd (cs := #[.int .i64 a0_0, .int .i64 a0_1, .int .i64 a0_2, .int .i64 a0_3, .int .i64 a0_4, .int .i64 a0_5, .bool a0_6, .int .i64 a0_7, .int .i64 a0_8, .int .i64 a0_9, .int .i64 a0_10, .int .i64 a0_11]) (t := 50) ?hr ?_; (case hd => rfl); (case hg => rfl); (case hr => first | (go_simp; done) | (go_simp; rfl)); intro gb122 hg w6 hbox hb; have n0_ := Aside0.mk (below_step (bs HB.out) hb); have n1_ := Aside0.mk (hbox); have n2_ := Aside0.mk ((by rw [hg]; exact (below_size (bs HB.out)) : w.heap.size ≤ gb122)); have n3_ := n2_; clear HB; have HB := n0_; have BK122 := n1_; have GW122 := n2_; have GE122 := n3_; clear n0_ n1_ n2_ n3_; clear hb hbox hg)))
 (try simp only [Act.put, List.setIfInBounds_toArray, List.set_cons_zero, List.set_cons_succ])
 go_cut [34] (fun v34 wc => ∃ (kq : Nat) (x34_4 : Bool), v34 = .bool x34_4 ∧ Aside0 (search_follows.j0 kq l1 a2 a3 x34_4 a0_0 a0_1 a0_2 a0_3 a0_4 a0_5 a0_6 a0_7 a0_8 a0_9 a0_10 a0_11 = some r) ∧ Aside0 (kq ≤ k) ∧ Aside0 (wc.heap[gb122]? = some (.cells #[.int .i64 a0_0, .int .i64 a0_1, .int .i64 a0_2, .int .i64 a0_3, .int .i64 a0_4, .int .i64 a0_5, .bool a0_6, .int .i64 a0_7, .int .i64 a0_8, .int .i64 a0_9, .int .i64 a0_10, .int .i64 a0_11] 50 (0, 0))) ∧ Aside0 (Below w.heap.size w wc))
 case first =>
  have H := HC5.out
  clear HC5
  by_cases c7 : a2 ≥ a3
  ·
   rw [if_pos c7] at H
   have c7b0 : decide (a3 ≤ a2) = true := decide_eq_true c7
   clear c7
   (first | rw [c7b0] | (simp only [i64_w, i32_w]; rw [c7b0]) | skip)
   have H' := Aside0.mk H
   clear H
   go_wp2
   repeat (go_quiet (fail); try go_wp2)
   go_meet
   case rel => exact ⟨_, (true), (by first | rfl | (simp; done) | (simp [*]; done)), H', ⟨by first | omega | exact Nat.le_refl _⟩, ⟨bg BK122.out⟩, ⟨bs HB.out⟩⟩
  ·
   rw [if_neg c7] at H
   have c7b0 : decide (a3 ≤ a2) = false := decide_eq_false c7
   clear c7
   (first | rw [c7b0] | (simp only [i64_w, i32_w]; rw [c7b0]) | skip)
   by_cases c8 : a0_5 = 0
   ·
    rw [if_pos c8] at H
    have c8b0 : (a0_5 == 0) = true := beq_iff_eq.mpr c8
    have c8b1 : (a0_5 != 0) = false := bne_eq_false_iff_eq.mpr c8
    clear c8
    have H' := Aside0.mk H
    clear H
    obtain ⟨hcz9_0, hcz9_1, hcz9_2, hcz9_3, hcz9_4, hcz9_5, hcz9_6, hcz9_7, hcz9_8, hcz9_9, hcz9_10, hcz9_11⟩ := bc12 BK122.out
    obtain ⟨hfz9_0, hfz9_1, hfz9_2, hfz9_3, hfz9_4, hfz9_5, hfz9_6, hfz9_7, hfz9_8, hfz9_9, hfz9_10, hfz9_11⟩ := bf12 BK122.out
    go_wp2
    repeat (go_quiet (fail); try go_wp2)
    go_meet
    case rel => exact ⟨_, (false), (by first | rfl | (simp; done) | (simp [*]; done)), H', ⟨by first | omega | exact Nat.le_refl _⟩, ⟨bg BK122.out⟩, ⟨bs HB.out⟩⟩
   ·
    rw [if_neg c8] at H
    have c8b0 : (a0_5 == 0) = false := beq_eq_false_iff_ne.mpr c8
    have c8b1 : (a0_5 != 0) = true := bne_iff_ne.mpr c8
    by_cases c10 : 0 ≤ a3
    ·
     rw [if_pos c10] at H
     have c10b0 : decide (0 ≤ a3) = true := decide_eq_true c10
     clear c10
     by_cases c11 : a3 < (l1.length : Int)
     ·
      rw [if_pos c11] at H
      have c11b0 : decide (a3 < (l1.length : Int)) = true := decide_eq_true c11
      clear c11
      by_cases c12 : 0 ≤ a2
      ·
       rw [if_pos c12] at H
       have c12b0 : decide (0 ≤ a2) = true := decide_eq_true c12
       clear c12
       by_cases c13 : a2 < (l1.length : Int)
       ·
        rw [if_pos c13] at H
        have c13b0 : decide (a2 < (l1.length : Int)) = true := decide_eq_true c13
        clear c13
        have H' := Aside0.mk H
        clear H
        obtain ⟨hcz14_0, hcz14_1, hcz14_2, hcz14_3, hcz14_4, hcz14_5, hcz14_6, hcz14_7, hcz14_8, hcz14_9, hcz14_10, hcz14_11⟩ := bc12 BK122.out
        obtain ⟨hfz14_0, hfz14_1, hfz14_2, hfz14_3, hfz14_4, hfz14_5, hfz14_6, hfz14_7, hfz14_8, hfz14_9, hfz14_10, hfz14_11⟩ := bf12 BK122.out
        have p123 : 0 ≤ (a3 : Int) := of_decide_eq_true (by first | (with_reducible assumption) | assumption)
        have q123 : a3 < (l1.length : Int) := of_decide_eq_true (by first | (with_reducible assumption) | assumption)
        obtain ⟨ad123, e123, hx123_0, hx123_1, hx123_2, hx123_3, hx123_4, hx123_5, hx123_6, hx123_7, hx123_8⟩ := at_T46 HR1.out a3 p123 q123
        cases e123
        replace hx123_0 := pw_cell_below HB.out hx123_0
        replace hx123_1 := pw_cell_below HB.out hx123_1
        replace hx123_2 := pw_cell_below HB.out hx123_2
        replace hx123_3 := pw_cell_below HB.out hx123_3
        replace hx123_4 := pw_cell_below HB.out hx123_4
        replace hx123_5 := pw_cell_below HB.out hx123_5
        replace hx123_6 := pw_cell_below HB.out hx123_6
        replace hx123_7 := pw_cell_below HB.out hx123_7
        replace hx123_8 := pw_cell_below HB.out hx123_8
        replace p123 := eq_true p123
        replace q123 := eq_true q123
        have p124 : 0 ≤ (a2 : Int) := of_decide_eq_true (by first | (with_reducible assumption) | assumption)
        have q124 : a2 < (l1.length : Int) := of_decide_eq_true (by first | (with_reducible assumption) | assumption)
        obtain ⟨ad124, e124, hx124_0, hx124_1, hx124_2, hx124_3, hx124_4, hx124_5, hx124_6, hx124_7, hx124_8⟩ := at_T46 HR1.out a2 p124 q124
        obtain rfl : ad123 = ad124 := (by injection e124)
        replace hx124_0 := pw_cell_below HB.out hx124_0
        replace hx124_1 := pw_cell_below HB.out hx124_1
        replace hx124_2 := pw_cell_below HB.out hx124_2
        replace hx124_3 := pw_cell_below HB.out hx124_3
        replace hx124_4 := pw_cell_below HB.out hx124_4
        replace hx124_5 := pw_cell_below HB.out hx124_5
        replace hx124_6 := pw_cell_below HB.out hx124_6
        replace hx124_7 := pw_cell_below HB.out hx124_7
        replace hx124_8 := pw_cell_below HB.out hx124_8
        replace p124 := eq_true p124
        replace q124 := eq_true q124
        go_wp2
        repeat (go_quiet (fail); try go_wp2)
        go_meet
        case rel => exact ⟨_, (decide ((wrap64 (((rd_T46 l1 a3).f1) - ((rd_T46 l1 a2).f1))) > a0_5)), (by first | rfl | (simp; done) | (simp [*]; done)), H', ⟨by first | omega | exact Nat.le_refl _⟩, ⟨bg BK122.out⟩, ⟨bs HB.out⟩⟩
       ·
        rw [if_neg c13] at H
        exact absurd H (by simp)
      ·
       rw [if_neg c12] at H
       exact absurd H (by simp)
     ·
      rw [if_neg c11] at H
      exact absurd H (by simp)
    ·
     rw [if_neg c10] at H
     exact absurd H (by simp)
 case rest =>
  clear HC5
  try clear c1
  try clear p1
  try clear q1
  try clear hx1
  try clear p2
  try clear c5
  try clear p6
  try clear c7
  try clear c7b0
  try clear c8
  try clear c8b0
  try clear c8b1
  try clear c10
  try clear c10b0
  try clear c11
  try clear c11b0
  try clear c12
  try clear c12b0
  try clear p12
  try clear q12
  try clear hx12
  try clear c13
  try clear c13b0
  try clear hcz14_0 hcz14_1 hcz14_10 hcz14_11 hcz14_2 hcz14_3 hcz14_4 hcz14_5 hcz14_6 hcz14_7 hcz14_8 hcz14_9
  try clear hcz9_0 hcz9_1 hcz9_10 hcz9_11 hcz9_2 hcz9_3 hcz9_4 hcz9_5 hcz9_6 hcz9_7 hcz9_8 hcz9_9
  try clear hfz14_0 hfz14_1 hfz14_10 hfz14_11 hfz14_2 hfz14_3 hfz14_4 hfz14_5 hfz14_6 hfz14_7 hfz14_8 hfz14_9
  try clear hfz9_0 hfz9_1 hfz9_10 hfz9_11 hfz9_2 hfz9_3 hfz9_4 hfz9_5 hfz9_6 hfz9_7 hfz9_8 hfz9_9
  try clear hx123_0
  try clear hx123_1
  try clear hx123_2
  try clear hx123_3
  try clear hx123_4
  try clear hx123_5
  try clear hx123_6
  try clear hx123_7
  try clear hx123_8
  try clear hx124_0
  try clear hx124_1
  try clear hx124_2
  try clear hx124_3
  try clear hx124_4
  try clear hx124_5
  try clear hx124_6
  try clear hx124_7
  try clear hx124_8
  try clear p123
  try clear p124
  try clear q123
  try clear q124
  obtain ⟨kq, x34_4, rfl, HA, HJ4, BK122, HB⟩ := hcut
  cases kq with
  | zero => exact absurd HA.out (by simp [search_follows.j0])
  | succ kj4 =>
   have H := HA.out
   clear HA
   simp only [search_follows.j0] at H
   by_cases c15 : x34_4 = true
   ·
    subst c15
    have H1 : (some false) = some r := by rw [if_pos rfl] at H; exact H
    clear H
    have H := H1
    clear H1
    obtain rfl := Option.some.inj H
    go_wp2
    repeat (go_quiet (fail); try go_wp2)
    go_ret
    exact ⟨by first | rfl | (simp [errW_none, errW_some] <;> rfl) | (simp [*, errW_none, errW_some] <;> rfl), bs HB.out⟩
   ·
    replace c15 := Bool.eq_false_iff.mpr c15
    subst c15
    have H1 : (if 0 ≤ (wrap64 (a2 + 1)) then (if (wrap64 (a2 + 1)) ≤ a3 then (if a3 ≤ (l1.length : Int) then ((some ((l1.take (a3 : Int).toNat).drop ((wrap64 (a2 + 1)) : Int).toNat : List (S46))).bind fun y125 => (search_follows.l0 kj4 y125 (y125.length : Int) 0 a0_0 a0_1 a0_2 a0_3 a0_4 a0_5 a0_6 a0_7 a0_8 a0_9 a0_10 a0_11)) else (none)) else (none)) else (none)) = some r := by rw [if_neg (show ¬ (false = true) by decide)] at H; exact H
    clear H
    have H := H1
    clear H1
    obtain ⟨ji16, hji16⟩ : ∃ j_ : Int, (wrap64 (a2 + 1)) = j_ := ⟨_, rfl⟩
    replace H : (if 0 ≤ (ji16) then (if (ji16) ≤ a3 then (if a3 ≤ (l1.length : Int) then ((some ((l1.take (a3 : Int).toNat).drop ((ji16) : Int).toNat : List (S46))).bind fun y125 => (search_follows.l0 kj4 y125 (y125.length : Int) 0 a0_0 a0_1 a0_2 a0_3 a0_4 a0_5 a0_6 a0_7 a0_8 a0_9 a0_10 a0_11)) else (none)) else (none)) else (none)) = some r := by first | (rw [hji16] at H; exact H) | (simp only [hji16] at H ⊢; exact H)
    have hji16w : (IntKind.i64.wrap (a2 + 1)) = ji16 := (i64_w _).trans hji16
    by_cases c17 : 0 ≤ (ji16)
    ·
     rw [if_pos c17] at H
     have c17b0 := eq_true c17
     have c17b1 : decide (0 ≤ (ji16)) = true := decide_eq_true c17
     clear c17
     by_cases c18 : (ji16) ≤ a3
     ·
      rw [if_pos c18] at H
      have c18b0 := eq_true c18
      have c18b1 : decide ((ji16) ≤ a3) = true := decide_eq_true c18
      clear c18
      by_cases c19 : a3 ≤ (l1.length : Int)
      ·
       rw [if_pos c19] at H
       have c19b0 := eq_true c19
       have c19b1 : decide (a3 ≤ (l1.length : Int)) = true := decide_eq_true c19
       clear c19
       obtain ⟨y125, hy125⟩ : ∃ y_ : List (S46), y_ = ((l1.take (a3 : Int).toNat).drop ((ji16) : Int).toNat) := ⟨_, rfl⟩
       replace H : (search_follows.l0 kj4 y125 (y125.length : Int) 0 a0_0 a0_1 a0_2 a0_3 a0_4 a0_5 a0_6 a0_7 a0_8 a0_9 a0_10 a0_11) = some r := by first | (rw [hy125]; with_reducible exact H) | (have H2_ := (Option.bind_some _ _).symm.trans H; rw [hy125]; with_reducible exact H2_) | (have H2_ := (Option.bind_some _ _).symm.trans H; with_reducible exact H2_) | with_reducible exact H | (rw [hy125]; exact H) | exact H
       have Ny125 := Aside0.mk hy125
       clear hy125
       have H' := Aside0.mk H
       clear H
       have q20 : (a3 : Int) ≤ ((l1.length : Int) : Int) := of_decide_eq_true (by first | (with_reducible assumption) | assumption)
       obtain ⟨i020, hi020, _, hsz20, _⟩ := info_parts info46
       have hroom20 : l1.length ≤ c1 := HC1.out
       have hC20 : Kd.C k46 _ A1 l1.length l1 := HR1.out
       have ql20 : ((ji16) : Int) ≤ (a3 : Int) := of_decide_eq_true (by first | (with_reducible assumption) | assumption)
       have q020 : (0 : Int) ≤ ((ji16) : Int) := of_decide_eq_true (by first | (with_reducible assumption) | assumption)
       have hcut20 := cut_mid (P := Try.prog) 51 46 .i64 .i64 Try.underlying51 hi020 9 hsz20 A1 l1.length c1 (ji16) a3 q020 ql20 q20 hroom20
       have hr20 := Kd.C_mid (lo := ((ji16) : Int).toNat) (hi := (a3 : Int).toNat) (c := c1) hC20 (by omega) (by omega) hroom20
       obtain ⟨A20, hA20⟩ : ∃ A_, A_ = (if c1 = ((ji16) : Int).toNat then A1 else (A1 : Option Addr).map (·.add (((ji16) : Int).toNat * 9))) := ⟨_, rfl⟩
       obtain ⟨c20, hc20⟩ : ∃ c_, c_ = c1 - ((ji16) : Int).toNat := ⟨_, rfl⟩
       have hy20 : y125.length = (a3 : Int).toNat - ((ji16) : Int).toNat := (by rw [Ny125.out, List.length_drop, List.length_take] <;> omega)
       rw [show ((l1).take (a3 : Int).toNat).drop ((ji16) : Int).toNat = y125 from Ny125.out.symm] at hr20
       replace hr20 : Kd.C k46 _ A20 y125.length y125 := (by rw [hA20]; exact hr20)
       rw [← hy20, ← hA20, ← hc20] at hcut20
       have HR128 := Aside0.mk hr20
       have HC128 := Aside0.mk (show y125.length ≤ c20 from by rw [hy20, hc20]; exact Nat.sub_le_sub_right (Nat.le_trans (by omega) hroom20) _)
       clear hr20 hC20 hroom20 hi020 hsz20 hc20
       have KY20 := Aside0.mk hy20
       have KA20 := Aside0.mk hA20
       clear hy20 hA20
       replace q20 := eq_true q20
       go_wp2
       repeat (go_quiet (fail); try go_wp2)
       go_loopg [41] kj4 (fun kq v41 w' => ∃ (x41_2 : Int), v41 = .int .i64 x41_2 ∧ Aside0 (search_follows.l0 kq y125 (y125.length : Int) x41_2 a0_0 a0_1 a0_2 a0_3 a0_4 a0_5 a0_6 a0_7 a0_8 a0_9 a0_10 a0_11 = some r) ∧ Aside0 (kq ≤ kj4) ∧ Aside0 (w'.heap[gb122]? = some (.cells #[.int .i64 a0_0, .int .i64 a0_1, .int .i64 a0_2, .int .i64 a0_3, .int .i64 a0_4, .int .i64 a0_5, .bool a0_6, .int .i64 a0_7, .int .i64 a0_8, .int .i64 a0_9, .int .i64 a0_10, .int .i64 a0_11] 50 (0, 0))) ∧ Aside0 (Below w.heap.size w w'))
       case atStart => exact ⟨(0), (by first | rfl | (simp; done) | (simp [*]; done)), H', ⟨Nat.le_refl _⟩, ⟨bg BK122.out⟩, ⟨bs HB.out⟩⟩
       case round =>
        clear H'
        try clear c1
        try clear p1
        try clear q1
        try clear hx1
        try clear c2
        try clear p2
        try clear q2
        try clear c5
        try clear p6
        try clear c7
        try clear c7b0
        try clear c8
        try clear c8b0
        try clear c8b1
        try clear c10
        try clear c10b0
        try clear c11
        try clear c11b0
        try clear c12
        try clear c12b0
        try clear p12
        try clear q12
        try clear hx12
        try clear c13
        try clear c13b0
        try clear c15
        try clear c17
        try clear c17b0
        try clear c17b1
        try clear c18
        try clear c18b0
        try clear c18b1
        try clear c19
        try clear c19b0
        try clear c19b1
        try clear c20
        try clear q20
        try clear hcz14_0 hcz14_1 hcz14_10 hcz14_11 hcz14_2 hcz14_3 hcz14_4 hcz14_5 hcz14_6 hcz14_7 hcz14_8 hcz14_9
        try clear hcz9_0 hcz9_1 hcz9_10 hcz9_11 hcz9_2 hcz9_3 hcz9_4 hcz9_5 hcz9_6 hcz9_7 hcz9_8 hcz9_9
        try clear hfz14_0 hfz14_1 hfz14_10 hfz14_11 hfz14_2 hfz14_3 hfz14_4 hfz14_5 hfz14_6 hfz14_7 hfz14_8 hfz14_9
        try clear hfz9_0 hfz9_1 hfz9_10 hfz9_11 hfz9_2 hfz9_3 hfz9_4 hfz9_5 hfz9_6 hfz9_7 hfz9_8 hfz9_9
        try clear hx123_0
        try clear hx123_1
        try clear hx123_2
        try clear hx123_3
        try clear hx123_4
        try clear hx123_5
        try clear hx123_6
        try clear hx123_7
        try clear hx123_8
        try clear hx124_0
        try clear hx124_1
        try clear hx124_2
        try clear hx124_3
        try clear hx124_4
        try clear hx124_5
        try clear hx124_6
        try clear hx124_7
        try clear hx124_8
        try clear p1
        try clear p12
        try clear p123
        try clear p124
        try clear p2
        try clear p6
        try clear q020
        try clear q1
        try clear q12
        try clear q123
        try clear q124
        try clear q20
        obtain ⟨x41_2, rfl, HA, HK2, BK122, HB⟩ := hrel
        cases gk with
        | zero => exact absurd HA.out (by simp [search_follows.l0])
        | succ k2 =>
         have H := HA.out
         clear HA
         simp only [search_follows.l0] at H
         by_cases c21 : x41_2 < (y125.length : Int)
         ·
          rw [if_pos c21] at H
          have c21b0 : decide (x41_2 < (y125.length : Int)) = true := decide_eq_true c21
          clear c21
          by_cases c22 : 0 ≤ x41_2
          ·
           rw [if_pos c22] at H
           have c22b0 : decide (0 ≤ x41_2) = true := decide_eq_true c22
           clear c22
           by_cases c23 : x41_2 < (y125.length : Int)
           ·
            rw [if_pos c23] at H
            have c23b0 : decide (x41_2 < (y125.length : Int)) = true := decide_eq_true c23
            clear c23
            replace H := Option.bind_eq_some_iff.mp H
            obtain ⟨t131, A240, H⟩ := H
            replace H : (if t131 = true then (some false) else (search_follows.l0 k2 y125 (y125.length : Int) (wrap64 (x41_2 + 1)) a0_0 a0_1 a0_2 a0_3 a0_4 a0_5 a0_6 a0_7 a0_8 a0_9 a0_10 a0_11)) = some r := H
            have A24 := Aside0.mk A240
            clear A240
            by_cases c25 : t131 = true
            ·
             subst c25
             have H1 : (some false) = some r := by rw [if_pos rfl] at H; exact H
             clear H
             have H := H1
             clear H1
             obtain rfl := Option.some.inj H
             have p129 : 0 ≤ (x41_2 : Int) := of_decide_eq_true (by first | (with_reducible assumption) | assumption)
             have q129 : x41_2 < (y125.length : Int) := of_decide_eq_true (by first | (with_reducible assumption) | assumption)
             obtain ⟨ad129, e129, hx129_0, hx129_1, hx129_2, hx129_3, hx129_4, hx129_5, hx129_6, hx129_7, hx129_8⟩ := at_T46 HR128.out x41_2 p129 q129
             cases e129
             replace hx129_0 := pw_cell_below HB.out hx129_0
             replace hx129_1 := pw_cell_below HB.out hx129_1
             replace hx129_2 := pw_cell_below HB.out hx129_2
             replace hx129_3 := pw_cell_below HB.out hx129_3
             replace hx129_4 := pw_cell_below HB.out hx129_4
             replace hx129_5 := pw_cell_below HB.out hx129_5
             replace hx129_6 := pw_cell_below HB.out hx129_6
             replace hx129_7 := pw_cell_below HB.out hx129_7
             replace hx129_8 := pw_cell_below HB.out hx129_8
             replace p129 := eq_true p129
             replace q129 := eq_true q129
             go_wp2_with (first | ((with_reducible refine gate_dst (N := 10) rfl ?_); refine box_event ?hg (N := 10) ?hd (cs := #[.int .i64 0, .int .i64 0, .int .i64 0, .int .i64 0, .int .i64 0, .int .i64 0, .int .i64 0, .string (⟨#[]⟩ : ByteArray), .int .i64 0]) (t := 46) ?hr ?_; (case hd => rfl); (case hg => rfl); (case hr => first | (go_simp; done) | (go_simp; rfl)); intro gb130 hg w26 hbox hb; have n0_ := Aside0.mk (blk_below (bg BK122.out) hb); have n1_ := Aside0.mk (below_step (bs HB.out) hb); have n2_ := Aside0.mk (hbox); have n3_ := Aside0.mk ((by rw [hg]; exact (below_size (bs HB.out)) : w.heap.size ≤ gb130)); have n4_ := n3_; have n5_ := Aside0.mk ((by rw [hg]; exact Nat.ne_of_lt (blk_lt (bg BK122.out)) : gb122 ≠ gb130)); have n6_ := Aside0.mk ((by rw [hg]; exact Nat.ne_of_gt (blk_lt (bg BK122.out)) : gb130 ≠ gb122)); clear BK122; clear HB; have BK122 := n0_; have HB := n1_; have BK130 := n2_; have GW130 := n3_; have GE130 := n4_; have NB122_130 := n5_; have NB130_122 := n6_; clear n0_ n1_ n2_ n3_ n4_ n5_ n6_; clear hb hbox hg; have hnb27 := NB130_122.out; have hnc27 := NB122_130.out; obtain ⟨hcz28_0, hcz28_1, hcz28_2, hcz28_3, hcz28_4, hcz28_5, hcz28_6, hcz28_7, hcz28_8⟩ := bc9 BK130.out; obtain ⟨hfz28_0, hfz28_1, hfz28_2, hfz28_3, hfz28_4, hfz28_5, hfz28_6, hfz28_7, hfz28_8⟩ := bf9 BK130.out; obtain ⟨hcz29_0, hcz29_1, hcz29_2, hcz29_3, hcz29_4, hcz29_5, hcz29_6, hcz29_7, hcz29_8, hcz29_9, hcz29_10, hcz29_11⟩ := bc12 BK122.out; obtain ⟨hfz29_0, hfz29_1, hfz29_2, hfz29_3, hfz29_4, hfz29_5, hfz29_6, hfz29_7, hfz29_8, hfz29_9, hfz29_10, hfz29_11⟩ := bf12 BK122.out) | (go_at_call 64; (with_reducible refine (search_forbids.calls k2 a0_0 a0_1 a0_2 a0_3 a0_4 a0_5 a0_6 a0_7 a0_8 a0_9 a0_10 a0_11 ((rd_T46 y125 x41_2).f0) ((rd_T46 y125 x41_2).f1) ((rd_T46 y125 x41_2).f2.f0) ((rd_T46 y125 x41_2).f2.f1) ((rd_T46 y125 x41_2).f2.f2) ((rd_T46 y125 x41_2).f2.f3) ((rd_T46 y125 x41_2).f2.f4) ((rd_T46 y125 x41_2).f2.f5) ((rd_T46 y125 x41_2).f2.f6) true _ A24.out).mono ?_); rintro e w30 ⟨rfl, hb⟩; have n0_ := Aside0.mk (blk_below (g := gb122) (o := .cells #[.int .i64 a0_0, .int .i64 a0_1, .int .i64 a0_2, .int .i64 a0_3, .int .i64 a0_4, .int .i64 a0_5, .bool a0_6, .int .i64 a0_7, .int .i64 a0_8, .int .i64 a0_9, .int .i64 a0_10, .int .i64 a0_11] 50 (0, 0)) (by (iterate 9 (with_reducible repeat (first | refine blk_drewN ?_ _ | refine blk_drew ?_ | refine blk_alloc ?_ _)); refine blk_far ?_ NB122_130.out _); exact bg BK122.out) hb); have n1_ := Aside0.mk (blk_below (g := gb130) (o := .cells #[.int .i64 ((rd_T46 y125 x41_2).f0), .int .i64 ((rd_T46 y125 x41_2).f1), .int .i64 ((rd_T46 y125 x41_2).f2.f0), .int .i64 ((rd_T46 y125 x41_2).f2.f1), .int .i64 ((rd_T46 y125 x41_2).f2.f2), .int .i64 ((rd_T46 y125 x41_2).f2.f3), .int .i64 ((rd_T46 y125 x41_2).f2.f4), .string ((rd_T46 y125 x41_2).f2.f5), .int .i64 ((rd_T46 y125 x41_2).f2.f6)] 46 (0, 0)) (by exact pt9 (bg BK130.out)) hb); have n2_ := Aside0.mk (below_step (bs HB.out) hb); clear BK122; clear BK130; clear HB; have BK122 := n0_; have BK130 := n1_; have HB := n2_; clear n0_ n1_ n2_; (try clear hb); (try clear hb2); (try clear hk); (try clear hi)))
             repeat (go_quiet (first | ((with_reducible refine gate_dst (N := 10) rfl ?_); refine box_event ?hg (N := 10) ?hd (cs := #[.int .i64 0, .int .i64 0, .int .i64 0, .int .i64 0, .int .i64 0, .int .i64 0, .int .i64 0, .string (⟨#[]⟩ : ByteArray), .int .i64 0]) (t := 46) ?hr ?_; (case hd => rfl); (case hg => rfl); (case hr => first | (go_simp; done) | (go_simp; rfl)); intro gb130 hg w26 hbox hb; have n0_ := Aside0.mk (blk_below (bg BK122.out) hb); have n1_ := Aside0.mk (below_step (bs HB.out) hb); have n2_ := Aside0.mk (hbox); have n3_ := Aside0.mk ((by rw [hg]; exact (below_size (bs HB.out)) : w.heap.size ≤ gb130)); have n4_ := n3_; have n5_ := Aside0.mk ((by rw [hg]; exact Nat.ne_of_lt (blk_lt (bg BK122.out)) : gb122 ≠ gb130)); have n6_ := Aside0.mk ((by rw [hg]; exact Nat.ne_of_gt (blk_lt (bg BK122.out)) : gb130 ≠ gb122)); clear BK122; clear HB; have BK122 := n0_; have HB := n1_; have BK130 := n2_; have GW130 := n3_; have GE130 := n4_; have NB122_130 := n5_; have NB130_122 := n6_; clear n0_ n1_ n2_ n3_ n4_ n5_ n6_; clear hb hbox hg; have hnb27 := NB130_122.out; have hnc27 := NB122_130.out; obtain ⟨hcz28_0, hcz28_1, hcz28_2, hcz28_3, hcz28_4, hcz28_5, hcz28_6, hcz28_7, hcz28_8⟩ := bc9 BK130.out; obtain ⟨hfz28_0, hfz28_1, hfz28_2, hfz28_3, hfz28_4, hfz28_5, hfz28_6, hfz28_7, hfz28_8⟩ := bf9 BK130.out; obtain ⟨hcz29_0, hcz29_1, hcz29_2, hcz29_3, hcz29_4, hcz29_5, hcz29_6, hcz29_7, hcz29_8, hcz29_9, hcz29_10, hcz29_11⟩ := bc12 BK122.out; obtain ⟨hfz29_0, hfz29_1, hfz29_2, hfz29_3, hfz29_4, hfz29_5, hfz29_6, hfz29_7, hfz29_8, hfz29_9, hfz29_10, hfz29_11⟩ := bf12 BK122.out) | (go_at_call 64; (with_reducible refine (search_forbids.calls k2 a0_0 a0_1 a0_2 a0_3 a0_4 a0_5 a0_6 a0_7 a0_8 a0_9 a0_10 a0_11 ((rd_T46 y125 x41_2).f0) ((rd_T46 y125 x41_2).f1) ((rd_T46 y125 x41_2).f2.f0) ((rd_T46 y125 x41_2).f2.f1) ((rd_T46 y125 x41_2).f2.f2) ((rd_T46 y125 x41_2).f2.f3) ((rd_T46 y125 x41_2).f2.f4) ((rd_T46 y125 x41_2).f2.f5) ((rd_T46 y125 x41_2).f2.f6) true _ A24.out).mono ?_); rintro e w30 ⟨rfl, hb⟩; have n0_ := Aside0.mk (blk_below (g := gb122) (o := .cells #[.int .i64 a0_0, .int .i64 a0_1, .int .i64 a0_2, .int .i64 a0_3, .int .i64 a0_4, .int .i64 a0_5, .bool a0_6, .int .i64 a0_7, .int .i64 a0_8, .int .i64 a0_9, .int .i64 a0_10, .int .i64 a0_11] 50 (0, 0)) (by (iterate 9 (with_reducible repeat (first | refine blk_drewN ?_ _ | refine blk_drew ?_ | refine blk_alloc ?_ _)); refine blk_far ?_ NB122_130.out _); exact bg BK122.out) hb); have n1_ := Aside0.mk (blk_below (g := gb130) (o := .cells #[.int .i64 ((rd_T46 y125 x41_2).f0), .int .i64 ((rd_T46 y125 x41_2).f1), .int .i64 ((rd_T46 y125 x41_2).f2.f0), .int .i64 ((rd_T46 y125 x41_2).f2.f1), .int .i64 ((rd_T46 y125 x41_2).f2.f2), .int .i64 ((rd_T46 y125 x41_2).f2.f3), .int .i64 ((rd_T46 y125 x41_2).f2.f4), .string ((rd_T46 y125 x41_2).f2.f5), .int .i64 ((rd_T46 y125 x41_2).f2.f6)] 46 (0, 0)) (by exact pt9 (bg BK130.out)) hb); have n2_ := Aside0.mk (below_step (bs HB.out) hb); clear BK122; clear BK130; clear HB; have BK122 := n0_; have BK130 := n1_; have HB := n2_; clear n0_ n1_ n2_; (try clear hb); (try clear hb2); (try clear hk); (try clear hi))); try go_wp2_with (first | ((with_reducible refine gate_dst (N := 10) rfl ?_); refine box_event ?hg (N := 10) ?hd (cs := #[.int .i64 0, .int .i64 0, .int .i64 0, .int .i64 0, .int .i64 0, .int .i64 0, .int .i64 0, .string (⟨#[]⟩ : ByteArray), .int .i64 0]) (t := 46) ?hr ?_; (case hd => rfl); (case hg => rfl); (case hr => first | (go_simp; done) | (go_simp; rfl)); intro gb130 hg w26 hbox hb; have n0_ := Aside0.mk (blk_below (bg BK122.out) hb); have n1_ := Aside0.mk (below_step (bs HB.out) hb); have n2_ := Aside0.mk (hbox); have n3_ := Aside0.mk ((by rw [hg]; exact (below_size (bs HB.out)) : w.heap.size ≤ gb130)); have n4_ := n3_; have n5_ := Aside0.mk ((by rw [hg]; exact Nat.ne_of_lt (blk_lt (bg BK122.out)) : gb122 ≠ gb130)); have n6_ := Aside0.mk ((by rw [hg]; exact Nat.ne_of_gt (blk_lt (bg BK122.out)) : gb130 ≠ gb122)); clear BK122; clear HB; have BK122 := n0_; have HB := n1_; have BK130 := n2_; have GW130 := n3_; have GE130 := n4_; have NB122_130 := n5_; have NB130_122 := n6_; clear n0_ n1_ n2_ n3_ n4_ n5_ n6_; clear hb hbox hg; have hnb27 := NB130_122.out; have hnc27 := NB122_130.out; obtain ⟨hcz28_0, hcz28_1, hcz28_2, hcz28_3, hcz28_4, hcz28_5, hcz28_6, hcz28_7, hcz28_8⟩ := bc9 BK130.out; obtain ⟨hfz28_0, hfz28_1, hfz28_2, hfz28_3, hfz28_4, hfz28_5, hfz28_6, hfz28_7, hfz28_8⟩ := bf9 BK130.out; obtain ⟨hcz29_0, hcz29_1, hcz29_2, hcz29_3, hcz29_4, hcz29_5, hcz29_6, hcz29_7, hcz29_8, hcz29_9, hcz29_10, hcz29_11⟩ := bc12 BK122.out; obtain ⟨hfz29_0, hfz29_1, hfz29_2, hfz29_3, hfz29_4, hfz29_5, hfz29_6, hfz29_7, hfz29_8, hfz29_9, hfz29_10, hfz29_11⟩ := bf12 BK122.out) | (go_at_call 64; (with_reducible refine (search_forbids.calls k2 a0_0 a0_1 a0_2 a0_3 a0_4 a0_5 a0_6 a0_7 a0_8 a0_9 a0_10 a0_11 ((rd_T46 y125 x41_2).f0) ((rd_T46 y125 x41_2).f1) ((rd_T46 y125 x41_2).f2.f0) ((rd_T46 y125 x41_2).f2.f1) ((rd_T46 y125 x41_2).f2.f2) ((rd_T46 y125 x41_2).f2.f3) ((rd_T46 y125 x41_2).f2.f4) ((rd_T46 y125 x41_2).f2.f5) ((rd_T46 y125 x41_2).f2.f6) true _ A24.out).mono ?_); rintro e w30 ⟨rfl, hb⟩; have n0_ := Aside0.mk (blk_below (g := gb122) (o := .cells #[.int .i64 a0_0, .int .i64 a0_1, .int .i64 a0_2, .int .i64 a0_3, .int .i64 a0_4, .int .i64 a0_5, .bool a0_6, .int .i64 a0_7, .int .i64 a0_8, .int .i64 a0_9, .int .i64 a0_10, .int .i64 a0_11] 50 (0, 0)) (by (iterate 9 (with_reducible repeat (first | refine blk_drewN ?_ _ | refine blk_drew ?_ | refine blk_alloc ?_ _)); refine blk_far ?_ NB122_130.out _); exact bg BK122.out) hb); have n1_ := Aside0.mk (blk_below (g := gb130) (o := .cells #[.int .i64 ((rd_T46 y125 x41_2).f0), .int .i64 ((rd_T46 y125 x41_2).f1), .int .i64 ((rd_T46 y125 x41_2).f2.f0), .int .i64 ((rd_T46 y125 x41_2).f2.f1), .int .i64 ((rd_T46 y125 x41_2).f2.f2), .int .i64 ((rd_T46 y125 x41_2).f2.f3), .int .i64 ((rd_T46 y125 x41_2).f2.f4), .string ((rd_T46 y125 x41_2).f2.f5), .int .i64 ((rd_T46 y125 x41_2).f2.f6)] 46 (0, 0)) (by exact pt9 (bg BK130.out)) hb); have n2_ := Aside0.mk (below_step (bs HB.out) hb); clear BK122; clear BK130; clear HB; have BK122 := n0_; have BK130 := n1_; have HB := n2_; clear n0_ n1_ n2_; (try clear hb); (try clear hb2); (try clear hk); (try clear hi))))
             go_ret
             exact ⟨by first | rfl | (simp [errW_none, errW_some] <;> rfl) | (simp only [← hji16]; first | rfl | (simp [errW_none, errW_some] <;> rfl)) | (simp [*, errW_none, errW_some] <;> rfl), bs HB.out⟩
            ·
             replace c25 := Bool.eq_false_iff.mpr c25
             subst c25
             have H1 : (search_follows.l0 k2 y125 (y125.length : Int) (wrap64 (x41_2 + 1)) a0_0 a0_1 a0_2 a0_3 a0_4 a0_5 a0_6 a0_7 a0_8 a0_9 a0_10 a0_11) = some r := by rw [if_neg (show ¬ (false = true) by decide)] at H; exact H
             clear H
             have H := H1
             clear H1
             have H' := Aside0.mk H
             clear H
             have p129 : 0 ≤ (x41_2 : Int) := of_decide_eq_true (by first | (with_reducible assumption) | assumption)
             have q129 : x41_2 < (y125.length : Int) := of_decide_eq_true (by first | (with_reducible assumption) | assumption)
             obtain ⟨ad129, e129, hx129_0, hx129_1, hx129_2, hx129_3, hx129_4, hx129_5, hx129_6, hx129_7, hx129_8⟩ := at_T46 HR128.out x41_2 p129 q129
             cases e129
             replace hx129_0 := pw_cell_below HB.out hx129_0
             replace hx129_1 := pw_cell_below HB.out hx129_1
             replace hx129_2 := pw_cell_below HB.out hx129_2
             replace hx129_3 := pw_cell_below HB.out hx129_3
             replace hx129_4 := pw_cell_below HB.out hx129_4
             replace hx129_5 := pw_cell_below HB.out hx129_5
             replace hx129_6 := pw_cell_below HB.out hx129_6
             replace hx129_7 := pw_cell_below HB.out hx129_7
             replace hx129_8 := pw_cell_below HB.out hx129_8
             replace p129 := eq_true p129
             replace q129 := eq_true q129
             go_wp2_with (first | ((with_reducible refine gate_dst (N := 10) rfl ?_); refine box_event ?hg (N := 10) ?hd (cs := #[.int .i64 0, .int .i64 0, .int .i64 0, .int .i64 0, .int .i64 0, .int .i64 0, .int .i64 0, .string (⟨#[]⟩ : ByteArray), .int .i64 0]) (t := 46) ?hr ?_; (case hd => rfl); (case hg => rfl); (case hr => first | (go_simp; done) | (go_simp; rfl)); intro gb130 hg w31 hbox hb; have n0_ := Aside0.mk (blk_below (bg BK122.out) hb); have n1_ := Aside0.mk (below_step (bs HB.out) hb); have n2_ := Aside0.mk (hbox); have n3_ := Aside0.mk ((by rw [hg]; exact (below_size (bs HB.out)) : w.heap.size ≤ gb130)); have n4_ := n3_; have n5_ := Aside0.mk ((by rw [hg]; exact Nat.ne_of_lt (blk_lt (bg BK122.out)) : gb122 ≠ gb130)); have n6_ := Aside0.mk ((by rw [hg]; exact Nat.ne_of_gt (blk_lt (bg BK122.out)) : gb130 ≠ gb122)); clear BK122; clear HB; have BK122 := n0_; have HB := n1_; have BK130 := n2_; have GW130 := n3_; have GE130 := n4_; have NB122_130 := n5_; have NB130_122 := n6_; clear n0_ n1_ n2_ n3_ n4_ n5_ n6_; clear hb hbox hg; have hnb32 := NB130_122.out; have hnc32 := NB122_130.out; obtain ⟨hcz33_0, hcz33_1, hcz33_2, hcz33_3, hcz33_4, hcz33_5, hcz33_6, hcz33_7, hcz33_8⟩ := bc9 BK130.out; obtain ⟨hfz33_0, hfz33_1, hfz33_2, hfz33_3, hfz33_4, hfz33_5, hfz33_6, hfz33_7, hfz33_8⟩ := bf9 BK130.out; obtain ⟨hcz34_0, hcz34_1, hcz34_2, hcz34_3, hcz34_4, hcz34_5, hcz34_6, hcz34_7, hcz34_8, hcz34_9, hcz34_10, hcz34_11⟩ := bc12 BK122.out; obtain ⟨hfz34_0, hfz34_1, hfz34_2, hfz34_3, hfz34_4, hfz34_5, hfz34_6, hfz34_7, hfz34_8, hfz34_9, hfz34_10, hfz34_11⟩ := bf12 BK122.out) | (go_at_call 64; (with_reducible refine (search_forbids.calls k2 a0_0 a0_1 a0_2 a0_3 a0_4 a0_5 a0_6 a0_7 a0_8 a0_9 a0_10 a0_11 ((rd_T46 y125 x41_2).f0) ((rd_T46 y125 x41_2).f1) ((rd_T46 y125 x41_2).f2.f0) ((rd_T46 y125 x41_2).f2.f1) ((rd_T46 y125 x41_2).f2.f2) ((rd_T46 y125 x41_2).f2.f3) ((rd_T46 y125 x41_2).f2.f4) ((rd_T46 y125 x41_2).f2.f5) ((rd_T46 y125 x41_2).f2.f6) false _ A24.out).mono ?_); rintro e w35 ⟨rfl, hb⟩; have n0_ := Aside0.mk (blk_below (g := gb122) (o := .cells #[.int .i64 a0_0, .int .i64 a0_1, .int .i64 a0_2, .int .i64 a0_3, .int .i64 a0_4, .int .i64 a0_5, .bool a0_6, .int .i64 a0_7, .int .i64 a0_8, .int .i64 a0_9, .int .i64 a0_10, .int .i64 a0_11] 50 (0, 0)) (by (iterate 9 (with_reducible repeat (first | refine blk_drewN ?_ _ | refine blk_drew ?_ | refine blk_alloc ?_ _)); refine blk_far ?_ NB122_130.out _); exact bg BK122.out) hb); have n1_ := Aside0.mk (blk_below (g := gb130) (o := .cells #[.int .i64 ((rd_T46 y125 x41_2).f0), .int .i64 ((rd_T46 y125 x41_2).f1), .int .i64 ((rd_T46 y125 x41_2).f2.f0), .int .i64 ((rd_T46 y125 x41_2).f2.f1), .int .i64 ((rd_T46 y125 x41_2).f2.f2), .int .i64 ((rd_T46 y125 x41_2).f2.f3), .int .i64 ((rd_T46 y125 x41_2).f2.f4), .string ((rd_T46 y125 x41_2).f2.f5), .int .i64 ((rd_T46 y125 x41_2).f2.f6)] 46 (0, 0)) (by exact pt9 (bg BK130.out)) hb); have n2_ := Aside0.mk (below_step (bs HB.out) hb); clear BK122; clear BK130; clear HB; have BK122 := n0_; have BK130 := n1_; have HB := n2_; clear n0_ n1_ n2_; (try clear hb); (try clear hb2); (try clear hk); (try clear hi)))
             repeat (go_quiet (first | ((with_reducible refine gate_dst (N := 10) rfl ?_); refine box_event ?hg (N := 10) ?hd (cs := #[.int .i64 0, .int .i64 0, .int .i64 0, .int .i64 0, .int .i64 0, .int .i64 0, .int .i64 0, .string (⟨#[]⟩ : ByteArray), .int .i64 0]) (t := 46) ?hr ?_; (case hd => rfl); (case hg => rfl); (case hr => first | (go_simp; done) | (go_simp; rfl)); intro gb130 hg w31 hbox hb; have n0_ := Aside0.mk (blk_below (bg BK122.out) hb); have n1_ := Aside0.mk (below_step (bs HB.out) hb); have n2_ := Aside0.mk (hbox); have n3_ := Aside0.mk ((by rw [hg]; exact (below_size (bs HB.out)) : w.heap.size ≤ gb130)); have n4_ := n3_; have n5_ := Aside0.mk ((by rw [hg]; exact Nat.ne_of_lt (blk_lt (bg BK122.out)) : gb122 ≠ gb130)); have n6_ := Aside0.mk ((by rw [hg]; exact Nat.ne_of_gt (blk_lt (bg BK122.out)) : gb130 ≠ gb122)); clear BK122; clear HB; have BK122 := n0_; have HB := n1_; have BK130 := n2_; have GW130 := n3_; have GE130 := n4_; have NB122_130 := n5_; have NB130_122 := n6_; clear n0_ n1_ n2_ n3_ n4_ n5_ n6_; clear hb hbox hg; have hnb32 := NB130_122.out; have hnc32 := NB122_130.out; obtain ⟨hcz33_0, hcz33_1, hcz33_2, hcz33_3, hcz33_4, hcz33_5, hcz33_6, hcz33_7, hcz33_8⟩ := bc9 BK130.out; obtain ⟨hfz33_0, hfz33_1, hfz33_2, hfz33_3, hfz33_4, hfz33_5, hfz33_6, hfz33_7, hfz33_8⟩ := bf9 BK130.out; obtain ⟨hcz34_0, hcz34_1, hcz34_2, hcz34_3, hcz34_4, hcz34_5, hcz34_6, hcz34_7, hcz34_8, hcz34_9, hcz34_10, hcz34_11⟩ := bc12 BK122.out; obtain ⟨hfz34_0, hfz34_1, hfz34_2, hfz34_3, hfz34_4, hfz34_5, hfz34_6, hfz34_7, hfz34_8, hfz34_9, hfz34_10, hfz34_11⟩ := bf12 BK122.out) | (go_at_call 64; (with_reducible refine (search_forbids.calls k2 a0_0 a0_1 a0_2 a0_3 a0_4 a0_5 a0_6 a0_7 a0_8 a0_9 a0_10 a0_11 ((rd_T46 y125 x41_2).f0) ((rd_T46 y125 x41_2).f1) ((rd_T46 y125 x41_2).f2.f0) ((rd_T46 y125 x41_2).f2.f1) ((rd_T46 y125 x41_2).f2.f2) ((rd_T46 y125 x41_2).f2.f3) ((rd_T46 y125 x41_2).f2.f4) ((rd_T46 y125 x41_2).f2.f5) ((rd_T46 y125 x41_2).f2.f6) false _ A24.out).mono ?_); rintro e w35 ⟨rfl, hb⟩; have n0_ := Aside0.mk (blk_below (g := gb122) (o := .cells #[.int .i64 a0_0, .int .i64 a0_1, .int .i64 a0_2, .int .i64 a0_3, .int .i64 a0_4, .int .i64 a0_5, .bool a0_6, .int .i64 a0_7, .int .i64 a0_8, .int .i64 a0_9, .int .i64 a0_10, .int .i64 a0_11] 50 (0, 0)) (by (iterate 9 (with_reducible repeat (first | refine blk_drewN ?_ _ | refine blk_drew ?_ | refine blk_alloc ?_ _)); refine blk_far ?_ NB122_130.out _); exact bg BK122.out) hb); have n1_ := Aside0.mk (blk_below (g := gb130) (o := .cells #[.int .i64 ((rd_T46 y125 x41_2).f0), .int .i64 ((rd_T46 y125 x41_2).f1), .int .i64 ((rd_T46 y125 x41_2).f2.f0), .int .i64 ((rd_T46 y125 x41_2).f2.f1), .int .i64 ((rd_T46 y125 x41_2).f2.f2), .int .i64 ((rd_T46 y125 x41_2).f2.f3), .int .i64 ((rd_T46 y125 x41_2).f2.f4), .string ((rd_T46 y125 x41_2).f2.f5), .int .i64 ((rd_T46 y125 x41_2).f2.f6)] 46 (0, 0)) (by exact pt9 (bg BK130.out)) hb); have n2_ := Aside0.mk (below_step (bs HB.out) hb); clear BK122; clear BK130; clear HB; have BK122 := n0_; have BK130 := n1_; have HB := n2_; clear n0_ n1_ n2_; (try clear hb); (try clear hb2); (try clear hk); (try clear hi))); try go_wp2_with (first | ((with_reducible refine gate_dst (N := 10) rfl ?_); refine box_event ?hg (N := 10) ?hd (cs := #[.int .i64 0, .int .i64 0, .int .i64 0, .int .i64 0, .int .i64 0, .int .i64 0, .int .i64 0, .string (⟨#[]⟩ : ByteArray), .int .i64 0]) (t := 46) ?hr ?_; (case hd => rfl); (case hg => rfl); (case hr => first | (go_simp; done) | (go_simp; rfl)); intro gb130 hg w31 hbox hb; have n0_ := Aside0.mk (blk_below (bg BK122.out) hb); have n1_ := Aside0.mk (below_step (bs HB.out) hb); have n2_ := Aside0.mk (hbox); have n3_ := Aside0.mk ((by rw [hg]; exact (below_size (bs HB.out)) : w.heap.size ≤ gb130)); have n4_ := n3_; have n5_ := Aside0.mk ((by rw [hg]; exact Nat.ne_of_lt (blk_lt (bg BK122.out)) : gb122 ≠ gb130)); have n6_ := Aside0.mk ((by rw [hg]; exact Nat.ne_of_gt (blk_lt (bg BK122.out)) : gb130 ≠ gb122)); clear BK122; clear HB; have BK122 := n0_; have HB := n1_; have BK130 := n2_; have GW130 := n3_; have GE130 := n4_; have NB122_130 := n5_; have NB130_122 := n6_; clear n0_ n1_ n2_ n3_ n4_ n5_ n6_; clear hb hbox hg; have hnb32 := NB130_122.out; have hnc32 := NB122_130.out; obtain ⟨hcz33_0, hcz33_1, hcz33_2, hcz33_3, hcz33_4, hcz33_5, hcz33_6, hcz33_7, hcz33_8⟩ := bc9 BK130.out; obtain ⟨hfz33_0, hfz33_1, hfz33_2, hfz33_3, hfz33_4, hfz33_5, hfz33_6, hfz33_7, hfz33_8⟩ := bf9 BK130.out; obtain ⟨hcz34_0, hcz34_1, hcz34_2, hcz34_3, hcz34_4, hcz34_5, hcz34_6, hcz34_7, hcz34_8, hcz34_9, hcz34_10, hcz34_11⟩ := bc12 BK122.out; obtain ⟨hfz34_0, hfz34_1, hfz34_2, hfz34_3, hfz34_4, hfz34_5, hfz34_6, hfz34_7, hfz34_8, hfz34_9, hfz34_10, hfz34_11⟩ := bf12 BK122.out) | (go_at_call 64; (with_reducible refine (search_forbids.calls k2 a0_0 a0_1 a0_2 a0_3 a0_4 a0_5 a0_6 a0_7 a0_8 a0_9 a0_10 a0_11 ((rd_T46 y125 x41_2).f0) ((rd_T46 y125 x41_2).f1) ((rd_T46 y125 x41_2).f2.f0) ((rd_T46 y125 x41_2).f2.f1) ((rd_T46 y125 x41_2).f2.f2) ((rd_T46 y125 x41_2).f2.f3) ((rd_T46 y125 x41_2).f2.f4) ((rd_T46 y125 x41_2).f2.f5) ((rd_T46 y125 x41_2).f2.f6) false _ A24.out).mono ?_); rintro e w35 ⟨rfl, hb⟩; have n0_ := Aside0.mk (blk_below (g := gb122) (o := .cells #[.int .i64 a0_0, .int .i64 a0_1, .int .i64 a0_2, .int .i64 a0_3, .int .i64 a0_4, .int .i64 a0_5, .bool a0_6, .int .i64 a0_7, .int .i64 a0_8, .int .i64 a0_9, .int .i64 a0_10, .int .i64 a0_11] 50 (0, 0)) (by (iterate 9 (with_reducible repeat (first | refine blk_drewN ?_ _ | refine blk_drew ?_ | refine blk_alloc ?_ _)); refine blk_far ?_ NB122_130.out _); exact bg BK122.out) hb); have n1_ := Aside0.mk (blk_below (g := gb130) (o := .cells #[.int .i64 ((rd_T46 y125 x41_2).f0), .int .i64 ((rd_T46 y125 x41_2).f1), .int .i64 ((rd_T46 y125 x41_2).f2.f0), .int .i64 ((rd_T46 y125 x41_2).f2.f1), .int .i64 ((rd_T46 y125 x41_2).f2.f2), .int .i64 ((rd_T46 y125 x41_2).f2.f3), .int .i64 ((rd_T46 y125 x41_2).f2.f4), .string ((rd_T46 y125 x41_2).f2.f5), .int .i64 ((rd_T46 y125 x41_2).f2.f6)] 46 (0, 0)) (by exact pt9 (bg BK130.out)) hb); have n2_ := Aside0.mk (below_step (bs HB.out) hb); clear BK122; clear BK130; clear HB; have BK122 := n0_; have BK130 := n1_; have HB := n2_; clear n0_ n1_ n2_; (try clear hb); (try clear hb2); (try clear hk); (try clear hi))))
             go_roundg k2
             case measure => have := HJ4.out; have := HK2.out; omega
             case rel => exact ⟨(wrap64 (x41_2 + 1)), (by first | rfl | (simp; done) | (simp [*]; done)), H', ⟨by have := HJ4.out; have := HK2.out; omega⟩, ⟨bg BK122.out⟩, ⟨bs HB.out⟩⟩
           ·
            rw [if_neg c23] at H
            exact absurd H (by simp)
          ·
           rw [if_neg c22] at H
           exact absurd H (by simp)
         ·
          rw [if_neg c21] at H
          have c21b0 : decide (x41_2 < (y125.length : Int)) = false := decide_eq_false c21
          clear c21
          obtain rfl := Option.some.inj H
          go_wp2
          repeat (go_quiet (fail); try go_wp2)
          go_ret
          exact ⟨by first | rfl | (simp [errW_none, errW_some] <;> rfl) | (simp only [← hji16]; first | rfl | (simp [errW_none, errW_some] <;> rfl)) | (simp [*, errW_none, errW_some] <;> rfl), bs HB.out⟩
      ·
       rw [if_neg c19] at H
       exact absurd H (by simp)
     ·
      rw [if_neg c18] at H
      exact absurd H (by simp)
    ·
     rw [if_neg c17] at H
     exact absurd H (by simp)

end Go.Proofs.Ytgdjiphljadlcaa.K
