-- Printed by wip/hprint.py (this project's own driver of the kit's print) out of the translation; Lean checks it.
import Derived.Test.YtgdjiphljadlcaaK0
import Derived.Test.YtgdjiphljadlcaaK22
namespace Go.Proofs.Ytgdjiphljadlcaa.K
open Go.RowKit Go.Proofs.YtgdjiphljadlcaaW.PrintWords Go.Proofs.YtgdjiphljadlcaaW.PrintLast Go.Proofs.YtgdjiphljadlcaaW.PrintMore
attribute [local go_sem] max2_int min2_int max_two min_two max_three min_three max_four min_four   -- for this text's walks alone
set_option linter.unusedVariables false
set_option linter.unusedSimpArgs false

/-! ### signalbenchref47_follows: function 60 -/
mutual
def signalbenchref47_follows.j0 : Nat → List (S46) → Int → Int → Bool → Int → Int → Int → Int → Int → Int → Bool → Int → Int → Int → Int → Int → Option (Bool)
 | 0, _, _, _, _, _, _, _, _, _, _, _, _, _, _, _, _ => none
 | k + 1, x1, x3, x4, x36, x352000, x352001, x352002, x352003, x352004, x352005, x352006, x352007, x352008, x352009, x352010, x352011 => if x36 = true then (some false) else (if x352006 = true then (signalbenchref47_follows.l0 k x1 x4 (wrap64 (x3 + 1)) x352000 x352001 x352002 x352003 x352004 x352005 x352006 x352007 x352008 x352009 x352010 x352011) else (some true))
def signalbenchref47_follows.l0 : Nat → List (S46) → Int → Int → Int → Int → Int → Int → Int → Int → Bool → Int → Int → Int → Int → Int → Option (Bool)
 | 0, _, _, _, _, _, _, _, _, _, _, _, _, _, _, _ => none
 | k + 1, x1, x4, x12, x352000, x352001, x352002, x352003, x352004, x352005, x352006, x352007, x352008, x352009, x352010, x352011 => if x12 < x4 then (if 0 ≤ x12 then (if x12 < (x1.length : Int) then ((signalbenchref47_satisfies.f k x352007 x352008 x352009 x352010 x352011 ((rd_T46 x1 x12).f0) ((rd_T46 x1 x12).f1) ((rd_T46 x1 x12).f2.f0) ((rd_T46 x1 x12).f2.f1) ((rd_T46 x1 x12).f2.f2) ((rd_T46 x1 x12).f2.f3) ((rd_T46 x1 x12).f2.f4) ((rd_T46 x1 x12).f2.f5) ((rd_T46 x1 x12).f2.f6)).bind fun t355 => (if t355 = true then (some false) else (signalbenchref47_follows.l0 k x1 x4 (wrap64 (x12 + 1)) x352000 x352001 x352002 x352003 x352004 x352005 x352006 x352007 x352008 x352009 x352010 x352011))) else (none)) else (none)) else (some true)
end
def signalbenchref47_follows.f (k : Nat) (l0_0 : List (S50)) (l1 : List (S46)) (a2 : Int) (a3 : Int) (a4 : Int) : Option (Bool) := if 0 ≤ a2 then (if a2 < (l0_0.length : Int) then (if ((rd_T50 l0_0 a2).f1) = 0 then (signalbenchref47_follows.j0 k l1 a3 a4 false ((rd_T50 l0_0 a2).f0.f0) ((rd_T50 l0_0 a2).f0.f1) ((rd_T50 l0_0 a2).f0.f2) ((rd_T50 l0_0 a2).f0.f3) ((rd_T50 l0_0 a2).f0.f4) ((rd_T50 l0_0 a2).f1) ((rd_T50 l0_0 a2).f2) ((rd_T50 l0_0 a2).f3.f0) ((rd_T50 l0_0 a2).f3.f1) ((rd_T50 l0_0 a2).f3.f2) ((rd_T50 l0_0 a2).f3.f3) ((rd_T50 l0_0 a2).f3.f4)) else (if 0 ≤ a4 then (if a4 < (l1.length : Int) then (if 0 ≤ a3 then (if a3 < (l1.length : Int) then (signalbenchref47_follows.j0 k l1 a3 a4 (decide ((wrap64 (((rd_T46 l1 a4).f1) - ((rd_T46 l1 a3).f1))) > ((rd_T50 l0_0 a2).f1))) ((rd_T50 l0_0 a2).f0.f0) ((rd_T50 l0_0 a2).f0.f1) ((rd_T50 l0_0 a2).f0.f2) ((rd_T50 l0_0 a2).f0.f3) ((rd_T50 l0_0 a2).f0.f4) ((rd_T50 l0_0 a2).f1) ((rd_T50 l0_0 a2).f2) ((rd_T50 l0_0 a2).f3.f0) ((rd_T50 l0_0 a2).f3.f1) ((rd_T50 l0_0 a2).f3.f2) ((rd_T50 l0_0 a2).f3.f3) ((rd_T50 l0_0 a2).f3.f4)) else (none)) else (none)) else (none)) else (none))) else (none)) else (none)
def signalbenchref47_follows.T2 : Bool × List (List Nat × List Nat) := (true, [([], []), ([0], [0]), ([1], [1]), ([2], [2]), ([3], [3]), ([3], [3]), ([4, 5, 3], [3, 4, 5]), ([6, 3], [3, 6]), ([7, 3], [3, 7]), ([3], [3]), ([3], [3]), ([9, 10, 3], [3, 9, 10]), ([11, 3], [3, 11]), ([12, 3], [3, 12]), ([8, 13, 3], [3, 8, 13]), ([3], [3]), ([15, 3], [3, 15]), ([14, 16, 3], [3, 14, 16]), ([3, 17], [3, 17])])
def signalbenchref47_follows.B2 : List Nat := [0, 1, 3, 7, 15, 15, 63, 127, 255, 15, 15, 1551, 3599, 7695, 16383, 15, 32783, 131071, 262143]
theorem signalbenchref47_follows.tab2 : rtab .any (opsOf Try.f60 2) = signalbenchref47_follows.T2 := by kernel_rfl
theorem signalbenchref47_follows.bits2 : waitsOk signalbenchref47_follows.T2.2 signalbenchref47_follows.B2 = true := by kernel_rfl
set_option maxHeartbeats 8000000 in
set_option maxRecDepth 100000 in
theorem signalbenchref47_follows.calls (k : Nat) (A0_0 : Option Addr) (c0_0 : Nat) (l0_0 : List (S50)) (A1 : Option Addr) (c1 : Nat) (l1 : List (S46)) (a2 : Int) (a3 : Int) (a4 : Int) (r : Bool) (w : World) (hr0_0 : Kd.C k50 w A0_0 l0_0.length l0_0) (hc0_0 : l0_0.length ≤ c0_0) (hr1 : Kd.C k46 w A1 l1.length l1) (hc1 : l1.length ≤ c1) (h : signalbenchref47_follows.f k l0_0 l1 a2 a3 a4 = some r) :
  Calls Try.prog 60 #[.agg #[.slice A0_0 l0_0.length c0_0], .slice A1 l1.length c1, .int .i64 a2, .int .i64 a3, .int .i64 a4] w fun e w' => e = .returned (.bool r) ∧ Below w.heap.size w w' := by
 have hu31 := Try.underlying31
 have hu50 := Try.underlying50
 have hu42 := Try.underlying42
 have hu46 := Try.underlying46
 have HR0_0 := Aside0.mk hr0_0
 have HC0_0 := Aside0.mk hc0_0
 clear hr0_0 hc0_0
 have HR1 := Aside0.mk hr1
 have HC1 := Aside0.mk hc1
 clear hr1 hc1
 have HB := Aside0.mk (Below.refl w.heap.size w)
 have H : (if 0 ≤ a2 then (if a2 < (l0_0.length : Int) then (if ((rd_T50 l0_0 a2).f1) = 0 then (signalbenchref47_follows.j0 k l1 a3 a4 false ((rd_T50 l0_0 a2).f0.f0) ((rd_T50 l0_0 a2).f0.f1) ((rd_T50 l0_0 a2).f0.f2) ((rd_T50 l0_0 a2).f0.f3) ((rd_T50 l0_0 a2).f0.f4) ((rd_T50 l0_0 a2).f1) ((rd_T50 l0_0 a2).f2) ((rd_T50 l0_0 a2).f3.f0) ((rd_T50 l0_0 a2).f3.f1) ((rd_T50 l0_0 a2).f3.f2) ((rd_T50 l0_0 a2).f3.f3) ((rd_T50 l0_0 a2).f3.f4)) else (if 0 ≤ a4 then (if a4 < (l1.length : Int) then (if 0 ≤ a3 then (if a3 < (l1.length : Int) then (signalbenchref47_follows.j0 k l1 a3 a4 (decide ((wrap64 (((rd_T46 l1 a4).f1) - ((rd_T46 l1 a3).f1))) > ((rd_T50 l0_0 a2).f1))) ((rd_T50 l0_0 a2).f0.f0) ((rd_T50 l0_0 a2).f0.f1) ((rd_T50 l0_0 a2).f0.f2) ((rd_T50 l0_0 a2).f0.f3) ((rd_T50 l0_0 a2).f0.f4) ((rd_T50 l0_0 a2).f1) ((rd_T50 l0_0 a2).f2) ((rd_T50 l0_0 a2).f3.f0) ((rd_T50 l0_0 a2).f3.f1) ((rd_T50 l0_0 a2).f3.f2) ((rd_T50 l0_0 a2).f3.f3) ((rd_T50 l0_0 a2).f3.f4)) else (none)) else (none)) else (none)) else (none))) else (none)) else (none)) = some r := h
 clear h
 by_cases c6 : 0 ≤ a2
 ·
  rw [if_pos c6] at H
  have c6b0 : decide (0 ≤ a2) = true := decide_eq_true c6
  clear c6
  by_cases c7 : a2 < (l0_0.length : Int)
  ·
   rw [if_pos c7] at H
   have c7b0 : decide (a2 < (l0_0.length : Int)) = true := decide_eq_true c7
   clear c7
   have HC8 := Aside0.mk H
   clear H
   go_enter Try.func60, Try.ntmps60
   go_upto_region 2 with (first | ((with_reducible refine gate_dst (N := 5) rfl ?_); refine box_event ?hg (N := 5) ?hd (cs := #[.slice A0_0 l0_0.length c0_0]) (t := 31) ?hr ?_; (case hd => rfl); (case hg => rfl); (case hr => first | (go_simp; done) | (go_simp; rfl)); intro gb349 hg w9 hbox hb; have n0_ := Aside0.mk (below_step (bs HB.out) hb); have n1_ := Aside0.mk (hbox); have n2_ := Aside0.mk ((by rw [hg]; exact (below_size (bs HB.out)) : w.heap.size ≤ gb349)); have n3_ := n2_; clear HB; have HB := n0_; have BK349 := n1_; have GW349 := n2_; have GE349 := n3_; clear n0_ n1_ n2_ n3_; clear hb hbox hg; have hcz10_0 : w9.cell? ⟨gb349, 0, none⟩ = some (.slice A0_0 l0_0.length c0_0) := (blk_cell BK349.out 0).trans rfl; have hfz10_0 := blk_frozen BK349.out 0; have p350 : 0 ≤ (a2 : Int) := of_decide_eq_true (by first | (with_reducible assumption) | assumption); have q350 : a2 < (l0_0.length : Int) := of_decide_eq_true (by first | (with_reducible assumption) | assumption); obtain ⟨ad350, e350, hx350_0, hx350_1, hx350_2, hx350_3, hx350_4, hx350_5, hx350_6, hx350_7, hx350_8, hx350_9, hx350_10, hx350_11⟩ := at_T50 HR0_0.out a2 p350 q350; cases e350; replace hx350_0 := pw_cell_below HB.out hx350_0; replace hx350_1 := pw_cell_below HB.out hx350_1; replace hx350_2 := pw_cell_below HB.out hx350_2; replace hx350_3 := pw_cell_below HB.out hx350_3; replace hx350_4 := pw_cell_below HB.out hx350_4; replace hx350_5 := pw_cell_below HB.out hx350_5; replace hx350_6 := pw_cell_below HB.out hx350_6; replace hx350_7 := pw_cell_below HB.out hx350_7; replace hx350_8 := pw_cell_below HB.out hx350_8; replace hx350_9 := pw_cell_below HB.out hx350_9; replace hx350_10 := pw_cell_below HB.out hx350_10; replace hx350_11 := pw_cell_below HB.out hx350_11; replace p350 := eq_true p350; replace q350 := eq_true q350) | ((with_reducible refine gate_dst (N := 11) rfl ?_); refine box_event ?hg (N := 11) ?hd (cs := #[.int .i64 0, .int .i64 0, .int .i64 0, .int .i64 0, .int .i64 0, .int .i64 0, .bool false, .int .i64 0, .int .i64 0, .int .i64 0, .int .i64 0, .int .i64 0]) (t := 50) ?hr ?_; (case hd => rfl); (case hg => rfl); (case hr => first | (go_simp; done) | (go_simp; rfl)); intro gb351 hg w11 hbox hb; have n0_ := Aside0.mk (blk_below (bg BK349.out) hb); have n1_ := Aside0.mk (below_step (bs HB.out) hb); have n2_ := Aside0.mk (hbox); have n3_ := Aside0.mk ((by rw [hg]; exact (below_size (bs HB.out)) : w.heap.size ≤ gb351)); have n4_ := n3_; have n5_ := Aside0.mk ((by rw [hg]; exact Nat.ne_of_lt (blk_lt (bg BK349.out)) : gb349 ≠ gb351)); have n6_ := Aside0.mk ((by rw [hg]; exact Nat.ne_of_gt (blk_lt (bg BK349.out)) : gb351 ≠ gb349)); clear BK349; clear HB; have BK349 := n0_; have HB := n1_; have BK351 := n2_; have GW351 := n3_; have GE351 := n4_; have NB349_351 := n5_; have NB351_349 := n6_; clear n0_ n1_ n2_ n3_ n4_ n5_ n6_; clear hb hbox hg; have hnb12 := NB351_349.out; have hnc12 := NB349_351.out; obtain ⟨hcz13_0, hcz13_1, hcz13_2, hcz13_3, hcz13_4, hcz13_5, hcz13_6, hcz13_7, hcz13_8, hcz13_9, hcz13_10, hcz13_11⟩ := bc12 BK351.out; obtain ⟨hfz13_0, hfz13_1, hfz13_2, hfz13_3, hfz13_4, hfz13_5, hfz13_6, hfz13_7, hfz13_8, hfz13_9, hfz13_10, hfz13_11⟩ := bf12 BK351.out))
   (try simp only [Act.put, List.setIfInBounds_toArray, List.set_cons_zero, List.set_cons_succ])
   go_cut [36] (fun v36 wc => ∃ (kq : Nat) (x36_7 : Bool), v36 = .bool x36_7 ∧ Aside0 (signalbenchref47_follows.j0 kq l1 a3 a4 x36_7 ((rd_T50 l0_0 a2).f0.f0) ((rd_T50 l0_0 a2).f0.f1) ((rd_T50 l0_0 a2).f0.f2) ((rd_T50 l0_0 a2).f0.f3) ((rd_T50 l0_0 a2).f0.f4) ((rd_T50 l0_0 a2).f1) ((rd_T50 l0_0 a2).f2) ((rd_T50 l0_0 a2).f3.f0) ((rd_T50 l0_0 a2).f3.f1) ((rd_T50 l0_0 a2).f3.f2) ((rd_T50 l0_0 a2).f3.f3) ((rd_T50 l0_0 a2).f3.f4) = some r) ∧ Aside0 (kq ≤ k) ∧ Aside0 (wc.heap[gb349]? = some (.cells #[(.slice (some ad350) l0_0.length c0_0)] 31 (0, 0))) ∧ Aside0 (wc.heap[gb351]? = some (.cells #[.int .i64 ((rd_T50 l0_0 a2).f0.f0), .int .i64 ((rd_T50 l0_0 a2).f0.f1), .int .i64 ((rd_T50 l0_0 a2).f0.f2), .int .i64 ((rd_T50 l0_0 a2).f0.f3), .int .i64 ((rd_T50 l0_0 a2).f0.f4), .int .i64 ((rd_T50 l0_0 a2).f1), .bool ((rd_T50 l0_0 a2).f2), .int .i64 ((rd_T50 l0_0 a2).f3.f0), .int .i64 ((rd_T50 l0_0 a2).f3.f1), .int .i64 ((rd_T50 l0_0 a2).f3.f2), .int .i64 ((rd_T50 l0_0 a2).f3.f3), .int .i64 ((rd_T50 l0_0 a2).f3.f4)] 50 (0, 0))) ∧ Aside0 (Below w.heap.size w wc))
   case first =>
    have H := HC8.out
    clear HC8
    by_cases c14 : ((rd_T50 l0_0 a2).f1) = 0
    ·
     rw [if_pos c14] at H
     have c14b0 : (((rd_T50 l0_0 a2).f1) == 0) = true := beq_iff_eq.mpr c14
     have c14b1 : (((rd_T50 l0_0 a2).f1) != 0) = false := bne_eq_false_iff_eq.mpr c14
     clear c14
     (first | rw [c14b0] | (simp only [i64_w, i32_w]; rw [c14b0]) | skip)
     have H' := Aside0.mk H
     clear H
     try go_wp2
     have n0_ : Aside0 (((((((((((((w11.setCell ⟨gb351, 0, none⟩ (.int .i64 ((rd_T50 l0_0 a2).f0.f0))).setCell ⟨gb351, 1, none⟩ (.int .i64 ((rd_T50 l0_0 a2).f0.f1))).setCell ⟨gb351, 2, none⟩ (.int .i64 ((rd_T50 l0_0 a2).f0.f2))).setCell ⟨gb351, 3, none⟩ (.int .i64 ((rd_T50 l0_0 a2).f0.f3))).setCell ⟨gb351, 4, none⟩ (.int .i64 ((rd_T50 l0_0 a2).f0.f4))).setCell ⟨gb351, 5, none⟩ (.int .i64 ((rd_T50 l0_0 a2).f1))).setCell ⟨gb351, 6, none⟩ (.bool ((rd_T50 l0_0 a2).f2))).setCell ⟨gb351, 7, none⟩ (.int .i64 ((rd_T50 l0_0 a2).f3.f0))).setCell ⟨gb351, 8, none⟩ (.int .i64 ((rd_T50 l0_0 a2).f3.f1))).setCell ⟨gb351, 9, none⟩ (.int .i64 ((rd_T50 l0_0 a2).f3.f2))).setCell ⟨gb351, 10, none⟩ (.int .i64 ((rd_T50 l0_0 a2).f3.f3))).setCell ⟨gb351, 11, none⟩ (.int .i64 ((rd_T50 l0_0 a2).f3.f4))).heap[gb349]? = some (.cells #[.slice (some ad350) l0_0.length c0_0] 31 (0, 0))) := ⟨by (iterate 12 (with_reducible repeat (first | refine blk_drewN ?_ _ | refine blk_drew ?_ | refine blk_alloc ?_ _)); refine blk_far ?_ NB349_351.out _); exact bg BK349.out⟩
     have n1_ : Aside0 (((((((((((((w11.setCell ⟨gb351, 0, none⟩ (.int .i64 ((rd_T50 l0_0 a2).f0.f0))).setCell ⟨gb351, 1, none⟩ (.int .i64 ((rd_T50 l0_0 a2).f0.f1))).setCell ⟨gb351, 2, none⟩ (.int .i64 ((rd_T50 l0_0 a2).f0.f2))).setCell ⟨gb351, 3, none⟩ (.int .i64 ((rd_T50 l0_0 a2).f0.f3))).setCell ⟨gb351, 4, none⟩ (.int .i64 ((rd_T50 l0_0 a2).f0.f4))).setCell ⟨gb351, 5, none⟩ (.int .i64 ((rd_T50 l0_0 a2).f1))).setCell ⟨gb351, 6, none⟩ (.bool ((rd_T50 l0_0 a2).f2))).setCell ⟨gb351, 7, none⟩ (.int .i64 ((rd_T50 l0_0 a2).f3.f0))).setCell ⟨gb351, 8, none⟩ (.int .i64 ((rd_T50 l0_0 a2).f3.f1))).setCell ⟨gb351, 9, none⟩ (.int .i64 ((rd_T50 l0_0 a2).f3.f2))).setCell ⟨gb351, 10, none⟩ (.int .i64 ((rd_T50 l0_0 a2).f3.f3))).setCell ⟨gb351, 11, none⟩ (.int .i64 ((rd_T50 l0_0 a2).f3.f4))).heap[gb351]? = some (.cells #[.int .i64 ((rd_T50 l0_0 a2).f0.f0), .int .i64 ((rd_T50 l0_0 a2).f0.f1), .int .i64 ((rd_T50 l0_0 a2).f0.f2), .int .i64 ((rd_T50 l0_0 a2).f0.f3), .int .i64 ((rd_T50 l0_0 a2).f0.f4), .int .i64 ((rd_T50 l0_0 a2).f1), .bool ((rd_T50 l0_0 a2).f2), .int .i64 ((rd_T50 l0_0 a2).f3.f0), .int .i64 ((rd_T50 l0_0 a2).f3.f1), .int .i64 ((rd_T50 l0_0 a2).f3.f2), .int .i64 ((rd_T50 l0_0 a2).f3.f3), .int .i64 ((rd_T50 l0_0 a2).f3.f4)] 50 (0, 0))) := ⟨by exact pt12 (bg BK351.out)⟩
     have n2_ : Aside0 (Below w.heap.size w ((((((((((((w11.setCell ⟨gb351, 0, none⟩ (.int .i64 ((rd_T50 l0_0 a2).f0.f0))).setCell ⟨gb351, 1, none⟩ (.int .i64 ((rd_T50 l0_0 a2).f0.f1))).setCell ⟨gb351, 2, none⟩ (.int .i64 ((rd_T50 l0_0 a2).f0.f2))).setCell ⟨gb351, 3, none⟩ (.int .i64 ((rd_T50 l0_0 a2).f0.f3))).setCell ⟨gb351, 4, none⟩ (.int .i64 ((rd_T50 l0_0 a2).f0.f4))).setCell ⟨gb351, 5, none⟩ (.int .i64 ((rd_T50 l0_0 a2).f1))).setCell ⟨gb351, 6, none⟩ (.bool ((rd_T50 l0_0 a2).f2))).setCell ⟨gb351, 7, none⟩ (.int .i64 ((rd_T50 l0_0 a2).f3.f0))).setCell ⟨gb351, 8, none⟩ (.int .i64 ((rd_T50 l0_0 a2).f3.f1))).setCell ⟨gb351, 9, none⟩ (.int .i64 ((rd_T50 l0_0 a2).f3.f2))).setCell ⟨gb351, 10, none⟩ (.int .i64 ((rd_T50 l0_0 a2).f3.f3))).setCell ⟨gb351, 11, none⟩ (.int .i64 ((rd_T50 l0_0 a2).f3.f4)))) := ⟨bs HB.out⟩
     (try clear BK349)
     (try clear BK351)
     (try clear HB)
     generalize ((((((((((((w11.setCell ⟨gb351, 0, none⟩ (.int .i64 ((rd_T50 l0_0 a2).f0.f0))).setCell ⟨gb351, 1, none⟩ (.int .i64 ((rd_T50 l0_0 a2).f0.f1))).setCell ⟨gb351, 2, none⟩ (.int .i64 ((rd_T50 l0_0 a2).f0.f2))).setCell ⟨gb351, 3, none⟩ (.int .i64 ((rd_T50 l0_0 a2).f0.f3))).setCell ⟨gb351, 4, none⟩ (.int .i64 ((rd_T50 l0_0 a2).f0.f4))).setCell ⟨gb351, 5, none⟩ (.int .i64 ((rd_T50 l0_0 a2).f1))).setCell ⟨gb351, 6, none⟩ (.bool ((rd_T50 l0_0 a2).f2))).setCell ⟨gb351, 7, none⟩ (.int .i64 ((rd_T50 l0_0 a2).f3.f0))).setCell ⟨gb351, 8, none⟩ (.int .i64 ((rd_T50 l0_0 a2).f3.f1))).setCell ⟨gb351, 9, none⟩ (.int .i64 ((rd_T50 l0_0 a2).f3.f2))).setCell ⟨gb351, 10, none⟩ (.int .i64 ((rd_T50 l0_0 a2).f3.f3))).setCell ⟨gb351, 11, none⟩ (.int .i64 ((rd_T50 l0_0 a2).f3.f4))) = w15 at n0_ n1_ n2_ ⊢
     have BK349 := n0_
     have BK351 := n1_
     have HB := n2_
     clear n0_ n1_ n2_
     have n0_ := Aside0.mk (blk_drew BK349.out)
     have n1_ := Aside0.mk (blk_drew BK351.out)
     have n2_ := Aside0.mk (below_drew1 HB.out)
     clear BK349
     clear BK351
     clear HB
     have BK349 := n0_
     have BK351 := n1_
     have HB := n2_
     clear n0_ n1_ n2_
     refine start_ (n := 19) (S := fun w' => w'.cell? ⟨gb351, 0, none⟩ = some (.int .i64 ((rd_T50 l0_0 a2).f0.f0)) ∧ w'.cell? ⟨gb351, 1, none⟩ = some (.int .i64 ((rd_T50 l0_0 a2).f0.f1)) ∧ w'.cell? ⟨gb351, 2, none⟩ = some (.int .i64 ((rd_T50 l0_0 a2).f0.f2)) ∧ w'.cell? ⟨gb351, 3, none⟩ = some (.int .i64 ((rd_T50 l0_0 a2).f0.f3)) ∧ w'.cell? ⟨gb351, 4, none⟩ = some (.int .i64 ((rd_T50 l0_0 a2).f0.f4)) ∧ w'.cell? ⟨gb351, 5, none⟩ = some (.int .i64 ((rd_T50 l0_0 a2).f1)) ∧ w'.cell? ⟨gb351, 6, none⟩ = some (.bool ((rd_T50 l0_0 a2).f2)) ∧ w'.cell? ⟨gb351, 7, none⟩ = some (.int .i64 ((rd_T50 l0_0 a2).f3.f0)) ∧ w'.cell? ⟨gb351, 8, none⟩ = some (.int .i64 ((rd_T50 l0_0 a2).f3.f1)) ∧ w'.cell? ⟨gb351, 9, none⟩ = some (.int .i64 ((rd_T50 l0_0 a2).f3.f2)) ∧ w'.cell? ⟨gb351, 10, none⟩ = some (.int .i64 ((rd_T50 l0_0 a2).f3.f3)) ∧ w'.cell? ⟨gb351, 11, none⟩ = some (.int .i64 ((rd_T50 l0_0 a2).f3.f4))) (ds := []) (bsq 0 19) (by kernel_rfl) rfl rfl ⟨(blk_cell BK351.out 0).trans rfl, (blk_cell BK351.out 1).trans rfl, (blk_cell BK351.out 2).trans rfl, (blk_cell BK351.out 3).trans rfl, (blk_cell BK351.out 4).trans rfl, (blk_cell BK351.out 5).trans rfl, (blk_cell BK351.out 6).trans rfl, (blk_cell BK351.out 7).trans rfl, (blk_cell BK351.out 8).trans rfl, (blk_cell BK351.out 9).trans rfl, (blk_cell BK351.out 10).trans rfl, (blk_cell BK351.out 11).trans rfl⟩ (fun hHeld => ?_); refine with_tabW signalbenchref47_follows.tab2 signalbenchref47_follows.bits2 (fun HT_ HW_ => ?_)
     generalize w15.drew = w16 at BK349 BK351 HB hHeld ⊢
     refine pu 0 18 (bsq 1 18) ?_
     refine tk 1 19 (bsq 2 17) hHeld ?_ (he := by rintro w' ⟨s0, s1, s2, s3, s4, s5, s6, s7, s8, s9, s10, s11⟩; go_simp; with_reducible rfl)
     refine pu 2 20 (bsq 3 16) ?_
     refine pu 3 21 (bsq 4 15) ?_
     refine un 4 22 (bsq 5 14) ?_
     refine un 5 23 (bsq 6 13) ?_
     refine un 6 24 (bsq 7 12) ?_
     refine un 7 25 (bsq 8 11) ?_
     refine un 8 26 (bsq 9 10) ?_
     refine un 9 27 (bsq 10 9) ?_
     refine un 10 28 (bsq 11 8) ?_
     refine un 11 29 (bsq 12 7) ?_
     refine un 12 30 (bsq 13 6) ?_
     refine un 13 31 (bsq 14 5) ?_
     refine un 14 32 (bsq 15 4) ?_
     refine un 15 33 (bsq 16 3) ?_
     refine un 16 34 (bsq 17 2) ?_
     refine un 17 35 (bsq 18 1) ?_
     refine pu 18 36 (bsq 19 0) ?_
     refine done_ (done_of HT_.out (by kernel_rfl)) ?_
     try go_wp2
     go_meet
     case rel => exact ⟨_, (false), (by first | rfl | (simp; done) | (simp [*]; done)), H', ⟨by first | omega | exact Nat.le_refl _⟩, ⟨bg BK349.out⟩, ⟨bg BK351.out⟩, ⟨bs HB.out⟩⟩
    ·
     rw [if_neg c14] at H
     have c14b0 : (((rd_T50 l0_0 a2).f1) == 0) = false := beq_eq_false_iff_ne.mpr c14
     have c14b1 : (((rd_T50 l0_0 a2).f1) != 0) = true := bne_iff_ne.mpr c14
     (first | rw [c14b0] | (simp only [i64_w, i32_w]; rw [c14b0]) | skip)
     by_cases c17 : 0 ≤ a4
     ·
      rw [if_pos c17] at H
      have c17b0 : decide (0 ≤ a4) = true := decide_eq_true c17
      clear c17
      by_cases c18 : a4 < (l1.length : Int)
      ·
       rw [if_pos c18] at H
       have c18b0 : decide (a4 < (l1.length : Int)) = true := decide_eq_true c18
       clear c18
       by_cases c19 : 0 ≤ a3
       ·
        rw [if_pos c19] at H
        have c19b0 : decide (0 ≤ a3) = true := decide_eq_true c19
        clear c19
        by_cases c20 : a3 < (l1.length : Int)
        ·
         rw [if_pos c20] at H
         have c20b0 : decide (a3 < (l1.length : Int)) = true := decide_eq_true c20
         clear c20
         have H' := Aside0.mk H
         clear H
         try go_wp2
         have n0_ : Aside0 (((((((((((((w11.setCell ⟨gb351, 0, none⟩ (.int .i64 ((rd_T50 l0_0 a2).f0.f0))).setCell ⟨gb351, 1, none⟩ (.int .i64 ((rd_T50 l0_0 a2).f0.f1))).setCell ⟨gb351, 2, none⟩ (.int .i64 ((rd_T50 l0_0 a2).f0.f2))).setCell ⟨gb351, 3, none⟩ (.int .i64 ((rd_T50 l0_0 a2).f0.f3))).setCell ⟨gb351, 4, none⟩ (.int .i64 ((rd_T50 l0_0 a2).f0.f4))).setCell ⟨gb351, 5, none⟩ (.int .i64 ((rd_T50 l0_0 a2).f1))).setCell ⟨gb351, 6, none⟩ (.bool ((rd_T50 l0_0 a2).f2))).setCell ⟨gb351, 7, none⟩ (.int .i64 ((rd_T50 l0_0 a2).f3.f0))).setCell ⟨gb351, 8, none⟩ (.int .i64 ((rd_T50 l0_0 a2).f3.f1))).setCell ⟨gb351, 9, none⟩ (.int .i64 ((rd_T50 l0_0 a2).f3.f2))).setCell ⟨gb351, 10, none⟩ (.int .i64 ((rd_T50 l0_0 a2).f3.f3))).setCell ⟨gb351, 11, none⟩ (.int .i64 ((rd_T50 l0_0 a2).f3.f4))).heap[gb349]? = some (.cells #[.slice (some ad350) l0_0.length c0_0] 31 (0, 0))) := ⟨by (iterate 12 (with_reducible repeat (first | refine blk_drewN ?_ _ | refine blk_drew ?_ | refine blk_alloc ?_ _)); refine blk_far ?_ NB349_351.out _); exact bg BK349.out⟩
         have n1_ : Aside0 (((((((((((((w11.setCell ⟨gb351, 0, none⟩ (.int .i64 ((rd_T50 l0_0 a2).f0.f0))).setCell ⟨gb351, 1, none⟩ (.int .i64 ((rd_T50 l0_0 a2).f0.f1))).setCell ⟨gb351, 2, none⟩ (.int .i64 ((rd_T50 l0_0 a2).f0.f2))).setCell ⟨gb351, 3, none⟩ (.int .i64 ((rd_T50 l0_0 a2).f0.f3))).setCell ⟨gb351, 4, none⟩ (.int .i64 ((rd_T50 l0_0 a2).f0.f4))).setCell ⟨gb351, 5, none⟩ (.int .i64 ((rd_T50 l0_0 a2).f1))).setCell ⟨gb351, 6, none⟩ (.bool ((rd_T50 l0_0 a2).f2))).setCell ⟨gb351, 7, none⟩ (.int .i64 ((rd_T50 l0_0 a2).f3.f0))).setCell ⟨gb351, 8, none⟩ (.int .i64 ((rd_T50 l0_0 a2).f3.f1))).setCell ⟨gb351, 9, none⟩ (.int .i64 ((rd_T50 l0_0 a2).f3.f2))).setCell ⟨gb351, 10, none⟩ (.int .i64 ((rd_T50 l0_0 a2).f3.f3))).setCell ⟨gb351, 11, none⟩ (.int .i64 ((rd_T50 l0_0 a2).f3.f4))).heap[gb351]? = some (.cells #[.int .i64 ((rd_T50 l0_0 a2).f0.f0), .int .i64 ((rd_T50 l0_0 a2).f0.f1), .int .i64 ((rd_T50 l0_0 a2).f0.f2), .int .i64 ((rd_T50 l0_0 a2).f0.f3), .int .i64 ((rd_T50 l0_0 a2).f0.f4), .int .i64 ((rd_T50 l0_0 a2).f1), .bool ((rd_T50 l0_0 a2).f2), .int .i64 ((rd_T50 l0_0 a2).f3.f0), .int .i64 ((rd_T50 l0_0 a2).f3.f1), .int .i64 ((rd_T50 l0_0 a2).f3.f2), .int .i64 ((rd_T50 l0_0 a2).f3.f3), .int .i64 ((rd_T50 l0_0 a2).f3.f4)] 50 (0, 0))) := ⟨by exact pt12 (bg BK351.out)⟩
         have n2_ : Aside0 (Below w.heap.size w ((((((((((((w11.setCell ⟨gb351, 0, none⟩ (.int .i64 ((rd_T50 l0_0 a2).f0.f0))).setCell ⟨gb351, 1, none⟩ (.int .i64 ((rd_T50 l0_0 a2).f0.f1))).setCell ⟨gb351, 2, none⟩ (.int .i64 ((rd_T50 l0_0 a2).f0.f2))).setCell ⟨gb351, 3, none⟩ (.int .i64 ((rd_T50 l0_0 a2).f0.f3))).setCell ⟨gb351, 4, none⟩ (.int .i64 ((rd_T50 l0_0 a2).f0.f4))).setCell ⟨gb351, 5, none⟩ (.int .i64 ((rd_T50 l0_0 a2).f1))).setCell ⟨gb351, 6, none⟩ (.bool ((rd_T50 l0_0 a2).f2))).setCell ⟨gb351, 7, none⟩ (.int .i64 ((rd_T50 l0_0 a2).f3.f0))).setCell ⟨gb351, 8, none⟩ (.int .i64 ((rd_T50 l0_0 a2).f3.f1))).setCell ⟨gb351, 9, none⟩ (.int .i64 ((rd_T50 l0_0 a2).f3.f2))).setCell ⟨gb351, 10, none⟩ (.int .i64 ((rd_T50 l0_0 a2).f3.f3))).setCell ⟨gb351, 11, none⟩ (.int .i64 ((rd_T50 l0_0 a2).f3.f4)))) := ⟨bs HB.out⟩
         (try clear BK349)
         (try clear BK351)
         (try clear HB)
         generalize ((((((((((((w11.setCell ⟨gb351, 0, none⟩ (.int .i64 ((rd_T50 l0_0 a2).f0.f0))).setCell ⟨gb351, 1, none⟩ (.int .i64 ((rd_T50 l0_0 a2).f0.f1))).setCell ⟨gb351, 2, none⟩ (.int .i64 ((rd_T50 l0_0 a2).f0.f2))).setCell ⟨gb351, 3, none⟩ (.int .i64 ((rd_T50 l0_0 a2).f0.f3))).setCell ⟨gb351, 4, none⟩ (.int .i64 ((rd_T50 l0_0 a2).f0.f4))).setCell ⟨gb351, 5, none⟩ (.int .i64 ((rd_T50 l0_0 a2).f1))).setCell ⟨gb351, 6, none⟩ (.bool ((rd_T50 l0_0 a2).f2))).setCell ⟨gb351, 7, none⟩ (.int .i64 ((rd_T50 l0_0 a2).f3.f0))).setCell ⟨gb351, 8, none⟩ (.int .i64 ((rd_T50 l0_0 a2).f3.f1))).setCell ⟨gb351, 9, none⟩ (.int .i64 ((rd_T50 l0_0 a2).f3.f2))).setCell ⟨gb351, 10, none⟩ (.int .i64 ((rd_T50 l0_0 a2).f3.f3))).setCell ⟨gb351, 11, none⟩ (.int .i64 ((rd_T50 l0_0 a2).f3.f4))) = w21 at n0_ n1_ n2_ ⊢
         have BK349 := n0_
         have BK351 := n1_
         have HB := n2_
         clear n0_ n1_ n2_
         have n0_ := Aside0.mk (blk_drew BK349.out)
         have n1_ := Aside0.mk (blk_drew BK351.out)
         have n2_ := Aside0.mk (below_drew1 HB.out)
         clear BK349
         clear BK351
         clear HB
         have BK349 := n0_
         have BK351 := n1_
         have HB := n2_
         clear n0_ n1_ n2_
         have p352 : 0 ≤ (a4 : Int) := of_decide_eq_true (by first | (with_reducible assumption) | assumption)
         have q352 : a4 < (l1.length : Int) := of_decide_eq_true (by first | (with_reducible assumption) | assumption)
         obtain ⟨ad352, e352, hx352_0, hx352_1, hx352_2, hx352_3, hx352_4, hx352_5, hx352_6, hx352_7, hx352_8⟩ := at_T46 HR1.out a4 p352 q352
         have hw352_8 := hx352_8
         have hw352_7 := hx352_7
         have hw352_6 := hx352_6
         have hw352_5 := hx352_5
         have hw352_4 := hx352_4
         have hw352_3 := hx352_3
         have hw352_2 := hx352_2
         have hw352_1 := hx352_1
         have hw352_0 := hx352_0
         cases e352
         replace hx352_0 := pw_cell_below HB.out hx352_0
         replace hx352_1 := pw_cell_below HB.out hx352_1
         replace hx352_2 := pw_cell_below HB.out hx352_2
         replace hx352_3 := pw_cell_below HB.out hx352_3
         replace hx352_4 := pw_cell_below HB.out hx352_4
         replace hx352_5 := pw_cell_below HB.out hx352_5
         replace hx352_6 := pw_cell_below HB.out hx352_6
         replace hx352_7 := pw_cell_below HB.out hx352_7
         replace hx352_8 := pw_cell_below HB.out hx352_8
         replace p352 := eq_true p352
         replace q352 := eq_true q352
         have p353 : 0 ≤ (a3 : Int) := of_decide_eq_true (by first | (with_reducible assumption) | assumption)
         have q353 : a3 < (l1.length : Int) := of_decide_eq_true (by first | (with_reducible assumption) | assumption)
         obtain ⟨ad353, e353, hx353_0, hx353_1, hx353_2, hx353_3, hx353_4, hx353_5, hx353_6, hx353_7, hx353_8⟩ := at_T46 HR1.out a3 p353 q353
         have hw353_8 := hx353_8
         have hw353_7 := hx353_7
         have hw353_6 := hx353_6
         have hw353_5 := hx353_5
         have hw353_4 := hx353_4
         have hw353_3 := hx353_3
         have hw353_2 := hx353_2
         have hw353_1 := hx353_1
         have hw353_0 := hx353_0
         obtain rfl : ad352 = ad353 := (by injection e353)
         replace hx353_0 := pw_cell_below HB.out hx353_0
         replace hx353_1 := pw_cell_below HB.out hx353_1
         replace hx353_2 := pw_cell_below HB.out hx353_2
         replace hx353_3 := pw_cell_below HB.out hx353_3
         replace hx353_4 := pw_cell_below HB.out hx353_4
         replace hx353_5 := pw_cell_below HB.out hx353_5
         replace hx353_6 := pw_cell_below HB.out hx353_6
         replace hx353_7 := pw_cell_below HB.out hx353_7
         replace hx353_8 := pw_cell_below HB.out hx353_8
         replace p353 := eq_true p353
         replace q353 := eq_true q353
         refine start_ (n := 19) (S := fun w' => w'.cell? ⟨gb351, 0, none⟩ = some (.int .i64 ((rd_T50 l0_0 a2).f0.f0)) ∧ w'.cell? ⟨gb351, 1, none⟩ = some (.int .i64 ((rd_T50 l0_0 a2).f0.f1)) ∧ w'.cell? ⟨gb351, 2, none⟩ = some (.int .i64 ((rd_T50 l0_0 a2).f0.f2)) ∧ w'.cell? ⟨gb351, 3, none⟩ = some (.int .i64 ((rd_T50 l0_0 a2).f0.f3)) ∧ w'.cell? ⟨gb351, 4, none⟩ = some (.int .i64 ((rd_T50 l0_0 a2).f0.f4)) ∧ w'.cell? ⟨gb351, 5, none⟩ = some (.int .i64 ((rd_T50 l0_0 a2).f1)) ∧ w'.cell? ⟨gb351, 6, none⟩ = some (.bool ((rd_T50 l0_0 a2).f2)) ∧ w'.cell? ⟨gb351, 7, none⟩ = some (.int .i64 ((rd_T50 l0_0 a2).f3.f0)) ∧ w'.cell? ⟨gb351, 8, none⟩ = some (.int .i64 ((rd_T50 l0_0 a2).f3.f1)) ∧ w'.cell? ⟨gb351, 9, none⟩ = some (.int .i64 ((rd_T50 l0_0 a2).f3.f2)) ∧ w'.cell? ⟨gb351, 10, none⟩ = some (.int .i64 ((rd_T50 l0_0 a2).f3.f3)) ∧ w'.cell? ⟨gb351, 11, none⟩ = some (.int .i64 ((rd_T50 l0_0 a2).f3.f4)) ∧ w'.cell? (ad352.add ((a4).toNat * 9)) = some (.int .i64 ((rd_T46 l1 a4).f0)) ∧ w'.cell? ⟨(ad352.add ((a4).toNat * 9)).block, (ad352.add ((a4).toNat * 9)).off + 1, none⟩ = some (.int .i64 ((rd_T46 l1 a4).f1)) ∧ w'.cell? ⟨(ad352.add ((a4).toNat * 9)).block, (ad352.add ((a4).toNat * 9)).off + 2, none⟩ = some (.int .i64 ((rd_T46 l1 a4).f2.f0)) ∧ w'.cell? ⟨(ad352.add ((a4).toNat * 9)).block, (ad352.add ((a4).toNat * 9)).off + 3, none⟩ = some (.int .i64 ((rd_T46 l1 a4).f2.f1)) ∧ w'.cell? ⟨(ad352.add ((a4).toNat * 9)).block, (ad352.add ((a4).toNat * 9)).off + 4, none⟩ = some (.int .i64 ((rd_T46 l1 a4).f2.f2)) ∧ w'.cell? ⟨(ad352.add ((a4).toNat * 9)).block, (ad352.add ((a4).toNat * 9)).off + 5, none⟩ = some (.int .i64 ((rd_T46 l1 a4).f2.f3)) ∧ w'.cell? ⟨(ad352.add ((a4).toNat * 9)).block, (ad352.add ((a4).toNat * 9)).off + 6, none⟩ = some (.int .i64 ((rd_T46 l1 a4).f2.f4)) ∧ w'.cell? ⟨(ad352.add ((a4).toNat * 9)).block, (ad352.add ((a4).toNat * 9)).off + 7, none⟩ = some (.string ((rd_T46 l1 a4).f2.f5)) ∧ w'.cell? ⟨(ad352.add ((a4).toNat * 9)).block, (ad352.add ((a4).toNat * 9)).off + 8, none⟩ = some (.int .i64 ((rd_T46 l1 a4).f2.f6)) ∧ w'.cell? (ad352.add ((a3).toNat * 9)) = some (.int .i64 ((rd_T46 l1 a3).f0)) ∧ w'.cell? ⟨(ad352.add ((a3).toNat * 9)).block, (ad352.add ((a3).toNat * 9)).off + 1, none⟩ = some (.int .i64 ((rd_T46 l1 a3).f1)) ∧ w'.cell? ⟨(ad352.add ((a3).toNat * 9)).block, (ad352.add ((a3).toNat * 9)).off + 2, none⟩ = some (.int .i64 ((rd_T46 l1 a3).f2.f0)) ∧ w'.cell? ⟨(ad352.add ((a3).toNat * 9)).block, (ad352.add ((a3).toNat * 9)).off + 3, none⟩ = some (.int .i64 ((rd_T46 l1 a3).f2.f1)) ∧ w'.cell? ⟨(ad352.add ((a3).toNat * 9)).block, (ad352.add ((a3).toNat * 9)).off + 4, none⟩ = some (.int .i64 ((rd_T46 l1 a3).f2.f2)) ∧ w'.cell? ⟨(ad352.add ((a3).toNat * 9)).block, (ad352.add ((a3).toNat * 9)).off + 5, none⟩ = some (.int .i64 ((rd_T46 l1 a3).f2.f3)) ∧ w'.cell? ⟨(ad352.add ((a3).toNat * 9)).block, (ad352.add ((a3).toNat * 9)).off + 6, none⟩ = some (.int .i64 ((rd_T46 l1 a3).f2.f4)) ∧ w'.cell? ⟨(ad352.add ((a3).toNat * 9)).block, (ad352.add ((a3).toNat * 9)).off + 7, none⟩ = some (.string ((rd_T46 l1 a3).f2.f5)) ∧ w'.cell? ⟨(ad352.add ((a3).toNat * 9)).block, (ad352.add ((a3).toNat * 9)).off + 8, none⟩ = some (.int .i64 ((rd_T46 l1 a3).f2.f6))) (ds := []) (bsq 0 19) (by kernel_rfl) rfl rfl ⟨(blk_cell BK351.out 0).trans rfl, (blk_cell BK351.out 1).trans rfl, (blk_cell BK351.out 2).trans rfl, (blk_cell BK351.out 3).trans rfl, (blk_cell BK351.out 4).trans rfl, (blk_cell BK351.out 5).trans rfl, (blk_cell BK351.out 6).trans rfl, (blk_cell BK351.out 7).trans rfl, (blk_cell BK351.out 8).trans rfl, (blk_cell BK351.out 9).trans rfl, (blk_cell BK351.out 10).trans rfl, (blk_cell BK351.out 11).trans rfl, ((HB.out.cell (World.block_lt_of_cell? w _ hw352_0)).trans hw352_0), ((HB.out.cell (World.block_lt_of_cell? w _ hw352_1)).trans hw352_1), ((HB.out.cell (World.block_lt_of_cell? w _ hw352_2)).trans hw352_2), ((HB.out.cell (World.block_lt_of_cell? w _ hw352_3)).trans hw352_3), ((HB.out.cell (World.block_lt_of_cell? w _ hw352_4)).trans hw352_4), ((HB.out.cell (World.block_lt_of_cell? w _ hw352_5)).trans hw352_5), ((HB.out.cell (World.block_lt_of_cell? w _ hw352_6)).trans hw352_6), ((HB.out.cell (World.block_lt_of_cell? w _ hw352_7)).trans hw352_7), ((HB.out.cell (World.block_lt_of_cell? w _ hw352_8)).trans hw352_8), ((HB.out.cell (World.block_lt_of_cell? w _ hw353_0)).trans hw353_0), ((HB.out.cell (World.block_lt_of_cell? w _ hw353_1)).trans hw353_1), ((HB.out.cell (World.block_lt_of_cell? w _ hw353_2)).trans hw353_2), ((HB.out.cell (World.block_lt_of_cell? w _ hw353_3)).trans hw353_3), ((HB.out.cell (World.block_lt_of_cell? w _ hw353_4)).trans hw353_4), ((HB.out.cell (World.block_lt_of_cell? w _ hw353_5)).trans hw353_5), ((HB.out.cell (World.block_lt_of_cell? w _ hw353_6)).trans hw353_6), ((HB.out.cell (World.block_lt_of_cell? w _ hw353_7)).trans hw353_7), ((HB.out.cell (World.block_lt_of_cell? w _ hw353_8)).trans hw353_8)⟩ (fun hHeld => ?_); refine with_tabW signalbenchref47_follows.tab2 signalbenchref47_follows.bits2 (fun HT_ HW_ => ?_)
         generalize w21.drew = w22 at BK349 BK351 HB hx352_0 hx352_1 hx352_2 hx352_3 hx352_4 hx352_5 hx352_6 hx352_7 hx352_8 hx353_0 hx353_1 hx353_2 hx353_3 hx353_4 hx353_5 hx353_6 hx353_7 hx353_8 hHeld ⊢
         refine pu 0 18 (bsq 1 18) ?_
         refine tk 1 19 (bsq 2 17) hHeld ?_ (he := by rintro w' ⟨s0, s1, s2, s3, s4, s5, s6, s7, s8, s9, s10, s11, s12, s13, s14, s15, s16, s17, s18, s19, s20, s21, s22, s23, s24, s25, s26, s27, s28, s29⟩; go_simp; with_reducible rfl)
         refine pu 2 20 (bsq 3 16) ?_
         refine pu 3 21 (bsq 4 15) ?_
         refine pu 4 22 (bsq 5 14) ?_
         refine pu 5 23 (bsq 6 13) ?_
         refine pu 6 24 (bsq 7 12) ?_
         refine pu 7 25 (bsq 8 11) ?_
         refine pu 9 27 (bls [8, 1, 1, 9]) ?_
         refine pu 10 28 (bls [8, 1, 2, 8]) ?_
         refine pu 11 29 (bls [8, 1, 3, 7]) ?_
         refine pu 12 30 (bls [8, 1, 4, 6]) ?_
         refine pu 15 33 (bls [8, 1, 4, 2, 1, 3]) ?_
         refine tk 8 26 (bls [13, 2, 1, 3]) hHeld ?_ (he := by rintro w' ⟨s0, s1, s2, s3, s4, s5, s6, s7, s8, s9, s10, s11, s12, s13, s14, s15, s16, s17, s18, s19, s20, s21, s22, s23, s24, s25, s26, s27, s28, s29⟩; go_simp; with_reducible rfl)
         refine tk 13 31 (bls [14, 1, 1, 3]) hHeld ?_ (he := by rintro w' ⟨s0, s1, s2, s3, s4, s5, s6, s7, s8, s9, s10, s11, s12, s13, s14, s15, s16, s17, s18, s19, s20, s21, s22, s23, s24, s25, s26, s27, s28, s29⟩; go_simp; with_reducible rfl)
         refine pu 14 32 (bsq 16 3) ?_
         refine tk 16 34 (bsq 17 2) hHeld ?_ (he := by rintro w' ⟨s0, s1, s2, s3, s4, s5, s6, s7, s8, s9, s10, s11, s12, s13, s14, s15, s16, s17, s18, s19, s20, s21, s22, s23, s24, s25, s26, s27, s28, s29⟩; go_simp; with_reducible rfl)
         refine pu 17 35 (bsq 18 1) ?_
         refine pu 18 36 (bsq 19 0) ?_
         refine done_ (done_of HT_.out (by kernel_rfl)) ?_
         try go_wp2
         go_meet
         case rel => exact ⟨_, (decide ((wrap64 (((rd_T46 l1 a4).f1) - ((rd_T46 l1 a3).f1))) > ((rd_T50 l0_0 a2).f1))), (by first | rfl | (simp; done) | (simp [*]; done)), H', ⟨by first | omega | exact Nat.le_refl _⟩, ⟨bg BK349.out⟩, ⟨bg BK351.out⟩, ⟨bs HB.out⟩⟩
        ·
         rw [if_neg c20] at H
         exact absurd H (by simp)
       ·
        rw [if_neg c19] at H
        exact absurd H (by simp)
      ·
       rw [if_neg c18] at H
       exact absurd H (by simp)
     ·
      rw [if_neg c17] at H
      exact absurd H (by simp)
   case rest =>
    clear HC8
    try clear c1
    try clear c2
    try clear p2
    try clear p3
    try clear q3
    try clear hx3
    try clear c6
    try clear c6b0
    try clear p6
    try clear c7
    try clear c7b0
    try clear c12
    try clear c14
    try clear c14b0
    try clear c14b1
    try clear c17
    try clear c17b0
    try clear c18
    try clear c18b0
    try clear c19
    try clear c19b0
    try clear c20
    try clear c20b0
    try clear hcz10_0
    try clear hcz13_0 hcz13_1 hcz13_10 hcz13_11 hcz13_2 hcz13_3 hcz13_4 hcz13_5 hcz13_6 hcz13_7 hcz13_8 hcz13_9
    try clear hfz10_0
    try clear hfz13_0 hfz13_1 hfz13_10 hfz13_11 hfz13_2 hfz13_3 hfz13_4 hfz13_5 hfz13_6 hfz13_7 hfz13_8 hfz13_9
    try clear hx350_0
    try clear hx350_1
    try clear hx350_10
    try clear hx350_11
    try clear hx350_2
    try clear hx350_3
    try clear hx350_4
    try clear hx350_5
    try clear hx350_6
    try clear hx350_7
    try clear hx350_8
    try clear hx350_9
    try clear hx352_0
    try clear hx352_1
    try clear hx352_2
    try clear hx352_3
    try clear hx352_4
    try clear hx352_5
    try clear hx352_6
    try clear hx352_7
    try clear hx352_8
    try clear hx353_0
    try clear hx353_1
    try clear hx353_2
    try clear hx353_3
    try clear hx353_4
    try clear hx353_5
    try clear hx353_6
    try clear hx353_7
    try clear hx353_8
    try clear p350
    try clear p352
    try clear p353
    try clear q350
    try clear q352
    try clear q353
    obtain ⟨kq, x36_7, rfl, HA, HJ7, BK349, BK351, HB⟩ := hcut
    cases kq with
    | zero => exact absurd HA.out (by simp [signalbenchref47_follows.j0])
    | succ kj7 =>
     have H := HA.out
     clear HA
     simp only [signalbenchref47_follows.j0] at H
     by_cases c23 : x36_7 = true
     ·
      subst c23
      have H1 : (some false) = some r := by rw [if_pos rfl] at H; exact H
      clear H
      have H := H1
      clear H1
      obtain rfl := Option.some.inj H
      go_wp2
      go_ret
      exact ⟨by first | rfl | (simp [errW_none, errW_some] <;> rfl) | (simp [*, errW_none, errW_some] <;> rfl), bs HB.out⟩
     ·
      replace c23 := Bool.eq_false_iff.mpr c23
      subst c23
      have H1 : (if ((rd_T50 l0_0 a2).f2) = true then (signalbenchref47_follows.l0 kj7 l1 a4 (wrap64 (a3 + 1)) ((rd_T50 l0_0 a2).f0.f0) ((rd_T50 l0_0 a2).f0.f1) ((rd_T50 l0_0 a2).f0.f2) ((rd_T50 l0_0 a2).f0.f3) ((rd_T50 l0_0 a2).f0.f4) ((rd_T50 l0_0 a2).f1) ((rd_T50 l0_0 a2).f2) ((rd_T50 l0_0 a2).f3.f0) ((rd_T50 l0_0 a2).f3.f1) ((rd_T50 l0_0 a2).f3.f2) ((rd_T50 l0_0 a2).f3.f3) ((rd_T50 l0_0 a2).f3.f4)) else (some true)) = some r := by rw [if_neg (show ¬ (false = true) by decide)] at H; exact H
      clear H
      have H := H1
      clear H1
      by_cases c24 : ((rd_T50 l0_0 a2).f2) = true
      ·
       rw [if_pos c24] at H
       have c24b0 : ((rd_T50 l0_0 a2).f2) = true := c24
       clear c24
       have H' := Aside0.mk H
       clear H
       have hnb25 := NB351_349.out
       have hnc25 := NB349_351.out
       obtain ⟨hcz26_0, hcz26_1, hcz26_2, hcz26_3, hcz26_4, hcz26_5, hcz26_6, hcz26_7, hcz26_8, hcz26_9, hcz26_10, hcz26_11⟩ := bc12 BK351.out
       obtain ⟨hfz26_0, hfz26_1, hfz26_2, hfz26_3, hfz26_4, hfz26_5, hfz26_6, hfz26_7, hfz26_8, hfz26_9, hfz26_10, hfz26_11⟩ := bf12 BK351.out
       go_wp2
       go_loopg [12] kj7 (fun kq v12 w' => ∃ (x12_2 : Int), v12 = .int .i64 x12_2 ∧ Aside0 (signalbenchref47_follows.l0 kq l1 a4 x12_2 ((rd_T50 l0_0 a2).f0.f0) ((rd_T50 l0_0 a2).f0.f1) ((rd_T50 l0_0 a2).f0.f2) ((rd_T50 l0_0 a2).f0.f3) ((rd_T50 l0_0 a2).f0.f4) ((rd_T50 l0_0 a2).f1) ((rd_T50 l0_0 a2).f2) ((rd_T50 l0_0 a2).f3.f0) ((rd_T50 l0_0 a2).f3.f1) ((rd_T50 l0_0 a2).f3.f2) ((rd_T50 l0_0 a2).f3.f3) ((rd_T50 l0_0 a2).f3.f4) = some r) ∧ Aside0 (kq ≤ kj7) ∧ Aside0 (w'.heap[gb349]? = some (.cells #[(.slice (some ad350) l0_0.length c0_0)] 31 (0, 0))) ∧ Aside0 (w'.heap[gb351]? = some (.cells #[.int .i64 ((rd_T50 l0_0 a2).f0.f0), .int .i64 ((rd_T50 l0_0 a2).f0.f1), .int .i64 ((rd_T50 l0_0 a2).f0.f2), .int .i64 ((rd_T50 l0_0 a2).f0.f3), .int .i64 ((rd_T50 l0_0 a2).f0.f4), .int .i64 ((rd_T50 l0_0 a2).f1), .bool ((rd_T50 l0_0 a2).f2), .int .i64 ((rd_T50 l0_0 a2).f3.f0), .int .i64 ((rd_T50 l0_0 a2).f3.f1), .int .i64 ((rd_T50 l0_0 a2).f3.f2), .int .i64 ((rd_T50 l0_0 a2).f3.f3), .int .i64 ((rd_T50 l0_0 a2).f3.f4)] 50 (0, 0))) ∧ Aside0 (Below w.heap.size w w'))
       case atStart => exact ⟨(wrap64 (a3 + 1)), (by first | rfl | (simp; done) | (simp [*]; done)), H', ⟨Nat.le_refl _⟩, ⟨bg BK349.out⟩, ⟨bg BK351.out⟩, ⟨bs HB.out⟩⟩
       case round =>
        clear H'
        try clear c1
        try clear c2
        try clear p2
        try clear p3
        try clear q3
        try clear hx3
        try clear c6
        try clear c6b0
        try clear p6
        try clear c7
        try clear c7b0
        try clear c12
        try clear c14
        try clear c14b0
        try clear c14b1
        try clear c17
        try clear c17b0
        try clear c18
        try clear c18b0
        try clear c19
        try clear c19b0
        try clear c20
        try clear c20b0
        try clear c23
        try clear c24
        try clear c24b0
        try clear c25
        try clear hcz10_0
        try clear hcz13_0 hcz13_1 hcz13_10 hcz13_11 hcz13_2 hcz13_3 hcz13_4 hcz13_5 hcz13_6 hcz13_7 hcz13_8 hcz13_9
        try clear hcz26_0 hcz26_1 hcz26_10 hcz26_11 hcz26_2 hcz26_3 hcz26_4 hcz26_5 hcz26_6 hcz26_7 hcz26_8 hcz26_9
        try clear hfz10_0
        try clear hfz13_0 hfz13_1 hfz13_10 hfz13_11 hfz13_2 hfz13_3 hfz13_4 hfz13_5 hfz13_6 hfz13_7 hfz13_8 hfz13_9
        try clear hfz26_0 hfz26_1 hfz26_10 hfz26_11 hfz26_2 hfz26_3 hfz26_4 hfz26_5 hfz26_6 hfz26_7 hfz26_8 hfz26_9
        try clear hx350_0
        try clear hx350_1
        try clear hx350_10
        try clear hx350_11
        try clear hx350_2
        try clear hx350_3
        try clear hx350_4
        try clear hx350_5
        try clear hx350_6
        try clear hx350_7
        try clear hx350_8
        try clear hx350_9
        try clear hx352_0
        try clear hx352_1
        try clear hx352_2
        try clear hx352_3
        try clear hx352_4
        try clear hx352_5
        try clear hx352_6
        try clear hx352_7
        try clear hx352_8
        try clear hx353_0
        try clear hx353_1
        try clear hx353_2
        try clear hx353_3
        try clear hx353_4
        try clear hx353_5
        try clear hx353_6
        try clear hx353_7
        try clear hx353_8
        try clear p2
        try clear p3
        try clear p350
        try clear p352
        try clear p353
        try clear p6
        try clear q3
        try clear q350
        try clear q352
        try clear q353
        obtain ⟨x12_2, rfl, HA, HK2, BK349, BK351, HB⟩ := hrel
        cases gk with
        | zero => exact absurd HA.out (by simp [signalbenchref47_follows.l0])
        | succ k2 =>
         have H := HA.out
         clear HA
         simp only [signalbenchref47_follows.l0] at H
         by_cases c27 : x12_2 < a4
         ·
          rw [if_pos c27] at H
          have c27b0 : decide (x12_2 < a4) = true := decide_eq_true c27
          clear c27
          by_cases c28 : 0 ≤ x12_2
          ·
           rw [if_pos c28] at H
           have c28b0 : decide (0 ≤ x12_2) = true := decide_eq_true c28
           clear c28
           by_cases c29 : x12_2 < (l1.length : Int)
           ·
            rw [if_pos c29] at H
            have c29b0 : decide (x12_2 < (l1.length : Int)) = true := decide_eq_true c29
            clear c29
            replace H := Option.bind_eq_some_iff.mp H
            obtain ⟨t355, A300, H⟩ := H
            replace H : (if t355 = true then (some false) else (signalbenchref47_follows.l0 k2 l1 a4 (wrap64 (x12_2 + 1)) ((rd_T50 l0_0 a2).f0.f0) ((rd_T50 l0_0 a2).f0.f1) ((rd_T50 l0_0 a2).f0.f2) ((rd_T50 l0_0 a2).f0.f3) ((rd_T50 l0_0 a2).f0.f4) ((rd_T50 l0_0 a2).f1) ((rd_T50 l0_0 a2).f2) ((rd_T50 l0_0 a2).f3.f0) ((rd_T50 l0_0 a2).f3.f1) ((rd_T50 l0_0 a2).f3.f2) ((rd_T50 l0_0 a2).f3.f3) ((rd_T50 l0_0 a2).f3.f4))) = some r := H
            have A30 := Aside0.mk A300
            clear A300
            by_cases c31 : t355 = true
            ·
             subst c31
             have H1 : (some false) = some r := by rw [if_pos rfl] at H; exact H
             clear H
             have H := H1
             clear H1
             obtain rfl := Option.some.inj H
             try go_wp2
             have n0_ := Aside0.mk (blk_drew BK349.out)
             have n1_ := Aside0.mk (blk_drew BK351.out)
             have n2_ := Aside0.mk (below_drew1 HB.out)
             clear BK349
             clear BK351
             clear HB
             have BK349 := n0_
             have BK351 := n1_
             have HB := n2_
             clear n0_ n1_ n2_
             have p354 : 0 ≤ (x12_2 : Int) := of_decide_eq_true (by first | (with_reducible assumption) | assumption)
             have q354 : x12_2 < (l1.length : Int) := of_decide_eq_true (by first | (with_reducible assumption) | assumption)
             obtain ⟨ad354, e354, hx354_0, hx354_1, hx354_2, hx354_3, hx354_4, hx354_5, hx354_6, hx354_7, hx354_8⟩ := at_T46 HR1.out x12_2 p354 q354
             have hw354_8 := hx354_8
             have hw354_7 := hx354_7
             have hw354_6 := hx354_6
             have hw354_5 := hx354_5
             have hw354_4 := hx354_4
             have hw354_3 := hx354_3
             have hw354_2 := hx354_2
             have hw354_1 := hx354_1
             have hw354_0 := hx354_0
             cases e354
             replace hx354_0 := pw_cell_below HB.out hx354_0
             replace hx354_1 := pw_cell_below HB.out hx354_1
             replace hx354_2 := pw_cell_below HB.out hx354_2
             replace hx354_3 := pw_cell_below HB.out hx354_3
             replace hx354_4 := pw_cell_below HB.out hx354_4
             replace hx354_5 := pw_cell_below HB.out hx354_5
             replace hx354_6 := pw_cell_below HB.out hx354_6
             replace hx354_7 := pw_cell_below HB.out hx354_7
             replace hx354_8 := pw_cell_below HB.out hx354_8
             replace p354 := eq_true p354
             replace q354 := eq_true q354
             refine start_ (n := 7) (S := fun w' => w'.cell? ⟨gb351, 0, none⟩ = some (.int .i64 ((rd_T50 l0_0 a2).f0.f0)) ∧ w'.cell? ⟨gb351, 1, none⟩ = some (.int .i64 ((rd_T50 l0_0 a2).f0.f1)) ∧ w'.cell? ⟨gb351, 2, none⟩ = some (.int .i64 ((rd_T50 l0_0 a2).f0.f2)) ∧ w'.cell? ⟨gb351, 3, none⟩ = some (.int .i64 ((rd_T50 l0_0 a2).f0.f3)) ∧ w'.cell? ⟨gb351, 4, none⟩ = some (.int .i64 ((rd_T50 l0_0 a2).f0.f4)) ∧ w'.cell? ⟨gb351, 5, none⟩ = some (.int .i64 ((rd_T50 l0_0 a2).f1)) ∧ w'.cell? ⟨gb351, 6, none⟩ = some (.bool ((rd_T50 l0_0 a2).f2)) ∧ w'.cell? ⟨gb351, 7, none⟩ = some (.int .i64 ((rd_T50 l0_0 a2).f3.f0)) ∧ w'.cell? ⟨gb351, 8, none⟩ = some (.int .i64 ((rd_T50 l0_0 a2).f3.f1)) ∧ w'.cell? ⟨gb351, 9, none⟩ = some (.int .i64 ((rd_T50 l0_0 a2).f3.f2)) ∧ w'.cell? ⟨gb351, 10, none⟩ = some (.int .i64 ((rd_T50 l0_0 a2).f3.f3)) ∧ w'.cell? ⟨gb351, 11, none⟩ = some (.int .i64 ((rd_T50 l0_0 a2).f3.f4)) ∧ w'.cell? (ad354.add ((x12_2).toNat * 9)) = some (.int .i64 ((rd_T46 l1 x12_2).f0)) ∧ w'.cell? ⟨(ad354.add ((x12_2).toNat * 9)).block, (ad354.add ((x12_2).toNat * 9)).off + 1, none⟩ = some (.int .i64 ((rd_T46 l1 x12_2).f1)) ∧ w'.cell? ⟨(ad354.add ((x12_2).toNat * 9)).block, (ad354.add ((x12_2).toNat * 9)).off + 2, none⟩ = some (.int .i64 ((rd_T46 l1 x12_2).f2.f0)) ∧ w'.cell? ⟨(ad354.add ((x12_2).toNat * 9)).block, (ad354.add ((x12_2).toNat * 9)).off + 3, none⟩ = some (.int .i64 ((rd_T46 l1 x12_2).f2.f1)) ∧ w'.cell? ⟨(ad354.add ((x12_2).toNat * 9)).block, (ad354.add ((x12_2).toNat * 9)).off + 4, none⟩ = some (.int .i64 ((rd_T46 l1 x12_2).f2.f2)) ∧ w'.cell? ⟨(ad354.add ((x12_2).toNat * 9)).block, (ad354.add ((x12_2).toNat * 9)).off + 5, none⟩ = some (.int .i64 ((rd_T46 l1 x12_2).f2.f3)) ∧ w'.cell? ⟨(ad354.add ((x12_2).toNat * 9)).block, (ad354.add ((x12_2).toNat * 9)).off + 6, none⟩ = some (.int .i64 ((rd_T46 l1 x12_2).f2.f4)) ∧ w'.cell? ⟨(ad354.add ((x12_2).toNat * 9)).block, (ad354.add ((x12_2).toNat * 9)).off + 7, none⟩ = some (.string ((rd_T46 l1 x12_2).f2.f5)) ∧ w'.cell? ⟨(ad354.add ((x12_2).toNat * 9)).block, (ad354.add ((x12_2).toNat * 9)).off + 8, none⟩ = some (.int .i64 ((rd_T46 l1 x12_2).f2.f6))) (ds := []) (bsq 0 7) (by kernel_rfl) rfl rfl ⟨(blk_cell BK351.out 0).trans rfl, (blk_cell BK351.out 1).trans rfl, (blk_cell BK351.out 2).trans rfl, (blk_cell BK351.out 3).trans rfl, (blk_cell BK351.out 4).trans rfl, (blk_cell BK351.out 5).trans rfl, (blk_cell BK351.out 6).trans rfl, (blk_cell BK351.out 7).trans rfl, (blk_cell BK351.out 8).trans rfl, (blk_cell BK351.out 9).trans rfl, (blk_cell BK351.out 10).trans rfl, (blk_cell BK351.out 11).trans rfl, ((HB.out.cell (World.block_lt_of_cell? w _ hw354_0)).trans hw354_0), ((HB.out.cell (World.block_lt_of_cell? w _ hw354_1)).trans hw354_1), ((HB.out.cell (World.block_lt_of_cell? w _ hw354_2)).trans hw354_2), ((HB.out.cell (World.block_lt_of_cell? w _ hw354_3)).trans hw354_3), ((HB.out.cell (World.block_lt_of_cell? w _ hw354_4)).trans hw354_4), ((HB.out.cell (World.block_lt_of_cell? w _ hw354_5)).trans hw354_5), ((HB.out.cell (World.block_lt_of_cell? w _ hw354_6)).trans hw354_6), ((HB.out.cell (World.block_lt_of_cell? w _ hw354_7)).trans hw354_7), ((HB.out.cell (World.block_lt_of_cell? w _ hw354_8)).trans hw354_8)⟩ (fun hHeld => ?_)
             generalize wr.drew = w32 at BK349 BK351 HB hx354_0 hx354_1 hx354_2 hx354_3 hx354_4 hx354_5 hx354_6 hx354_7 hx354_8 hHeld ⊢
             refine puk 0 46 (bsq 1 6) ?_
             refine puk 2 48 (bls [1, 1, 1, 4]) ?_
             refine puk 3 49 (bls [1, 1, 2, 3]) ?_
             refine puk 4 50 (bls [1, 1, 3, 2]) ?_
             refine tkk 1 47 (bsq 5 2) hHeld ?_ (he := by rintro w' ⟨s0, s1, s2, s3, s4, s5, s6, s7, s8, s9, s10, s11, s12, s13, s14, s15, s16, s17, s18, s19, s20⟩; go_simp; with_reducible rfl)
             refine tkk 5 51 (bsq 6 1) hHeld ?_ (he := by rintro w' ⟨s0, s1, s2, s3, s4, s5, s6, s7, s8, s9, s10, s11, s12, s13, s14, s15, s16, s17, s18, s19, s20⟩; go_simp; with_reducible rfl)
             refine one_ (i := 6) (N := some 52) (bsq 7 0) rfl rfl (by kernel_rfl) (by decide) (fun K hK => ?_)
             refine goes_ Try.func59 (by kernel_rfl) rfl #[.agg #[.int .i64 ((rd_T50 l0_0 a2).f3.f0), .int .i64 ((rd_T50 l0_0 a2).f3.f1), .int .i64 ((rd_T50 l0_0 a2).f3.f2), .int .i64 ((rd_T50 l0_0 a2).f3.f3), .int .i64 ((rd_T50 l0_0 a2).f3.f4)], .agg #[.int .i64 ((rd_T46 l1 x12_2).f0), .int .i64 ((rd_T46 l1 x12_2).f1), .int .i64 ((rd_T46 l1 x12_2).f2.f0), .int .i64 ((rd_T46 l1 x12_2).f2.f1), .int .i64 ((rd_T46 l1 x12_2).f2.f2), .int .i64 ((rd_T46 l1 x12_2).f2.f3), .int .i64 ((rd_T46 l1 x12_2).f2.f4), .string ((rd_T46 l1 x12_2).f2.f5), .int .i64 ((rd_T46 l1 x12_2).f2.f6)]] (by rfl) rfl rfl (by (try simp only [List.map_toArray, List.map_cons, List.map_nil]); first | done | rfl | (simp only [List.length_drop, List.length_take]; rfl)) ?_
             with_reducible refine (signalbenchref47_satisfies.calls k2 ((rd_T50 l0_0 a2).f3.f0) ((rd_T50 l0_0 a2).f3.f1) ((rd_T50 l0_0 a2).f3.f2) ((rd_T50 l0_0 a2).f3.f3) ((rd_T50 l0_0 a2).f3.f4) ((rd_T46 l1 x12_2).f0) ((rd_T46 l1 x12_2).f1) ((rd_T46 l1 x12_2).f2.f0) ((rd_T46 l1 x12_2).f2.f1) ((rd_T46 l1 x12_2).f2.f2) ((rd_T46 l1 x12_2).f2.f3) ((rd_T46 l1 x12_2).f2.f4) ((rd_T46 l1 x12_2).f2.f5) ((rd_T46 l1 x12_2).f2.f6) true _ A30.out).mono ?_
             rintro e w33 ⟨rfl, hb⟩
             refine ⟨_, rfl, ?_⟩
             have n0_ := Aside0.mk (blk_below (bg BK349.out) hb)
             have n1_ := Aside0.mk (blk_below (bg BK351.out) hb)
             have n2_ := Aside0.mk (below_step (bs HB.out) hb)
             clear BK349
             clear BK351
             clear HB
             have BK349 := n0_
             have BK351 := n1_
             have HB := n2_
             clear n0_ n1_ n2_
             (try clear hb)
             (try clear hb2)
             (try clear hk)
             (try clear hi)
             refine hK.out _ _ ⟨(blk_cell BK351.out 0).trans rfl, (blk_cell BK351.out 1).trans rfl, (blk_cell BK351.out 2).trans rfl, (blk_cell BK351.out 3).trans rfl, (blk_cell BK351.out 4).trans rfl, (blk_cell BK351.out 5).trans rfl, (blk_cell BK351.out 6).trans rfl, (blk_cell BK351.out 7).trans rfl, (blk_cell BK351.out 8).trans rfl, (blk_cell BK351.out 9).trans rfl, (blk_cell BK351.out 10).trans rfl, (blk_cell BK351.out 11).trans rfl, ((HB.out.cell (World.block_lt_of_cell? w _ hw354_0)).trans hw354_0), ((HB.out.cell (World.block_lt_of_cell? w _ hw354_1)).trans hw354_1), ((HB.out.cell (World.block_lt_of_cell? w _ hw354_2)).trans hw354_2), ((HB.out.cell (World.block_lt_of_cell? w _ hw354_3)).trans hw354_3), ((HB.out.cell (World.block_lt_of_cell? w _ hw354_4)).trans hw354_4), ((HB.out.cell (World.block_lt_of_cell? w _ hw354_5)).trans hw354_5), ((HB.out.cell (World.block_lt_of_cell? w _ hw354_6)).trans hw354_6), ((HB.out.cell (World.block_lt_of_cell? w _ hw354_7)).trans hw354_7), ((HB.out.cell (World.block_lt_of_cell? w _ hw354_8)).trans hw354_8)⟩ (fun hHeld => ?_)
             clear hK K
             refine norm_ (a' := ?_) ?_ ?_
             rotate_left
             ·
              show Act.put _ (some 52) _ = _
              simp only [Act.put, List.setIfInBounds_toArray, List.set_cons_zero, List.set_cons_succ, i64_w, i32_w]
              rfl
             refine done_ (by kernel_rfl) ?_
             try go_wp2
             go_ret
             exact ⟨by first | rfl | (simp [errW_none, errW_some] <;> rfl) | (simp [*, errW_none, errW_some] <;> rfl), bs HB.out⟩
            ·
             replace c31 := Bool.eq_false_iff.mpr c31
             subst c31
             have H1 : (signalbenchref47_follows.l0 k2 l1 a4 (wrap64 (x12_2 + 1)) ((rd_T50 l0_0 a2).f0.f0) ((rd_T50 l0_0 a2).f0.f1) ((rd_T50 l0_0 a2).f0.f2) ((rd_T50 l0_0 a2).f0.f3) ((rd_T50 l0_0 a2).f0.f4) ((rd_T50 l0_0 a2).f1) ((rd_T50 l0_0 a2).f2) ((rd_T50 l0_0 a2).f3.f0) ((rd_T50 l0_0 a2).f3.f1) ((rd_T50 l0_0 a2).f3.f2) ((rd_T50 l0_0 a2).f3.f3) ((rd_T50 l0_0 a2).f3.f4)) = some r := by rw [if_neg (show ¬ (false = true) by decide)] at H; exact H
             clear H
             have H := H1
             clear H1
             have H' := Aside0.mk H
             clear H
             try go_wp2
             have n0_ := Aside0.mk (blk_drew BK349.out)
             have n1_ := Aside0.mk (blk_drew BK351.out)
             have n2_ := Aside0.mk (below_drew1 HB.out)
             clear BK349
             clear BK351
             clear HB
             have BK349 := n0_
             have BK351 := n1_
             have HB := n2_
             clear n0_ n1_ n2_
             have p354 : 0 ≤ (x12_2 : Int) := of_decide_eq_true (by first | (with_reducible assumption) | assumption)
             have q354 : x12_2 < (l1.length : Int) := of_decide_eq_true (by first | (with_reducible assumption) | assumption)
             obtain ⟨ad354, e354, hx354_0, hx354_1, hx354_2, hx354_3, hx354_4, hx354_5, hx354_6, hx354_7, hx354_8⟩ := at_T46 HR1.out x12_2 p354 q354
             have hw354_8 := hx354_8
             have hw354_7 := hx354_7
             have hw354_6 := hx354_6
             have hw354_5 := hx354_5
             have hw354_4 := hx354_4
             have hw354_3 := hx354_3
             have hw354_2 := hx354_2
             have hw354_1 := hx354_1
             have hw354_0 := hx354_0
             cases e354
             replace hx354_0 := pw_cell_below HB.out hx354_0
             replace hx354_1 := pw_cell_below HB.out hx354_1
             replace hx354_2 := pw_cell_below HB.out hx354_2
             replace hx354_3 := pw_cell_below HB.out hx354_3
             replace hx354_4 := pw_cell_below HB.out hx354_4
             replace hx354_5 := pw_cell_below HB.out hx354_5
             replace hx354_6 := pw_cell_below HB.out hx354_6
             replace hx354_7 := pw_cell_below HB.out hx354_7
             replace hx354_8 := pw_cell_below HB.out hx354_8
             replace p354 := eq_true p354
             replace q354 := eq_true q354
             refine start_ (n := 7) (S := fun w' => w'.cell? ⟨gb351, 0, none⟩ = some (.int .i64 ((rd_T50 l0_0 a2).f0.f0)) ∧ w'.cell? ⟨gb351, 1, none⟩ = some (.int .i64 ((rd_T50 l0_0 a2).f0.f1)) ∧ w'.cell? ⟨gb351, 2, none⟩ = some (.int .i64 ((rd_T50 l0_0 a2).f0.f2)) ∧ w'.cell? ⟨gb351, 3, none⟩ = some (.int .i64 ((rd_T50 l0_0 a2).f0.f3)) ∧ w'.cell? ⟨gb351, 4, none⟩ = some (.int .i64 ((rd_T50 l0_0 a2).f0.f4)) ∧ w'.cell? ⟨gb351, 5, none⟩ = some (.int .i64 ((rd_T50 l0_0 a2).f1)) ∧ w'.cell? ⟨gb351, 6, none⟩ = some (.bool ((rd_T50 l0_0 a2).f2)) ∧ w'.cell? ⟨gb351, 7, none⟩ = some (.int .i64 ((rd_T50 l0_0 a2).f3.f0)) ∧ w'.cell? ⟨gb351, 8, none⟩ = some (.int .i64 ((rd_T50 l0_0 a2).f3.f1)) ∧ w'.cell? ⟨gb351, 9, none⟩ = some (.int .i64 ((rd_T50 l0_0 a2).f3.f2)) ∧ w'.cell? ⟨gb351, 10, none⟩ = some (.int .i64 ((rd_T50 l0_0 a2).f3.f3)) ∧ w'.cell? ⟨gb351, 11, none⟩ = some (.int .i64 ((rd_T50 l0_0 a2).f3.f4)) ∧ w'.cell? (ad354.add ((x12_2).toNat * 9)) = some (.int .i64 ((rd_T46 l1 x12_2).f0)) ∧ w'.cell? ⟨(ad354.add ((x12_2).toNat * 9)).block, (ad354.add ((x12_2).toNat * 9)).off + 1, none⟩ = some (.int .i64 ((rd_T46 l1 x12_2).f1)) ∧ w'.cell? ⟨(ad354.add ((x12_2).toNat * 9)).block, (ad354.add ((x12_2).toNat * 9)).off + 2, none⟩ = some (.int .i64 ((rd_T46 l1 x12_2).f2.f0)) ∧ w'.cell? ⟨(ad354.add ((x12_2).toNat * 9)).block, (ad354.add ((x12_2).toNat * 9)).off + 3, none⟩ = some (.int .i64 ((rd_T46 l1 x12_2).f2.f1)) ∧ w'.cell? ⟨(ad354.add ((x12_2).toNat * 9)).block, (ad354.add ((x12_2).toNat * 9)).off + 4, none⟩ = some (.int .i64 ((rd_T46 l1 x12_2).f2.f2)) ∧ w'.cell? ⟨(ad354.add ((x12_2).toNat * 9)).block, (ad354.add ((x12_2).toNat * 9)).off + 5, none⟩ = some (.int .i64 ((rd_T46 l1 x12_2).f2.f3)) ∧ w'.cell? ⟨(ad354.add ((x12_2).toNat * 9)).block, (ad354.add ((x12_2).toNat * 9)).off + 6, none⟩ = some (.int .i64 ((rd_T46 l1 x12_2).f2.f4)) ∧ w'.cell? ⟨(ad354.add ((x12_2).toNat * 9)).block, (ad354.add ((x12_2).toNat * 9)).off + 7, none⟩ = some (.string ((rd_T46 l1 x12_2).f2.f5)) ∧ w'.cell? ⟨(ad354.add ((x12_2).toNat * 9)).block, (ad354.add ((x12_2).toNat * 9)).off + 8, none⟩ = some (.int .i64 ((rd_T46 l1 x12_2).f2.f6))) (ds := []) (bsq 0 7) (by kernel_rfl) rfl rfl ⟨(blk_cell BK351.out 0).trans rfl, (blk_cell BK351.out 1).trans rfl, (blk_cell BK351.out 2).trans rfl, (blk_cell BK351.out 3).trans rfl, (blk_cell BK351.out 4).trans rfl, (blk_cell BK351.out 5).trans rfl, (blk_cell BK351.out 6).trans rfl, (blk_cell BK351.out 7).trans rfl, (blk_cell BK351.out 8).trans rfl, (blk_cell BK351.out 9).trans rfl, (blk_cell BK351.out 10).trans rfl, (blk_cell BK351.out 11).trans rfl, ((HB.out.cell (World.block_lt_of_cell? w _ hw354_0)).trans hw354_0), ((HB.out.cell (World.block_lt_of_cell? w _ hw354_1)).trans hw354_1), ((HB.out.cell (World.block_lt_of_cell? w _ hw354_2)).trans hw354_2), ((HB.out.cell (World.block_lt_of_cell? w _ hw354_3)).trans hw354_3), ((HB.out.cell (World.block_lt_of_cell? w _ hw354_4)).trans hw354_4), ((HB.out.cell (World.block_lt_of_cell? w _ hw354_5)).trans hw354_5), ((HB.out.cell (World.block_lt_of_cell? w _ hw354_6)).trans hw354_6), ((HB.out.cell (World.block_lt_of_cell? w _ hw354_7)).trans hw354_7), ((HB.out.cell (World.block_lt_of_cell? w _ hw354_8)).trans hw354_8)⟩ (fun hHeld => ?_)
             generalize wr.drew = w34 at BK349 BK351 HB hx354_0 hx354_1 hx354_2 hx354_3 hx354_4 hx354_5 hx354_6 hx354_7 hx354_8 hHeld ⊢
             refine puk 0 46 (bsq 1 6) ?_
             refine puk 2 48 (bls [1, 1, 1, 4]) ?_
             refine puk 3 49 (bls [1, 1, 2, 3]) ?_
             refine puk 4 50 (bls [1, 1, 3, 2]) ?_
             refine tkk 1 47 (bsq 5 2) hHeld ?_ (he := by rintro w' ⟨s0, s1, s2, s3, s4, s5, s6, s7, s8, s9, s10, s11, s12, s13, s14, s15, s16, s17, s18, s19, s20⟩; go_simp; with_reducible rfl)
             refine tkk 5 51 (bsq 6 1) hHeld ?_ (he := by rintro w' ⟨s0, s1, s2, s3, s4, s5, s6, s7, s8, s9, s10, s11, s12, s13, s14, s15, s16, s17, s18, s19, s20⟩; go_simp; with_reducible rfl)
             refine one_ (i := 6) (N := some 52) (bsq 7 0) rfl rfl (by kernel_rfl) (by decide) (fun K hK => ?_)
             refine goes_ Try.func59 (by kernel_rfl) rfl #[.agg #[.int .i64 ((rd_T50 l0_0 a2).f3.f0), .int .i64 ((rd_T50 l0_0 a2).f3.f1), .int .i64 ((rd_T50 l0_0 a2).f3.f2), .int .i64 ((rd_T50 l0_0 a2).f3.f3), .int .i64 ((rd_T50 l0_0 a2).f3.f4)], .agg #[.int .i64 ((rd_T46 l1 x12_2).f0), .int .i64 ((rd_T46 l1 x12_2).f1), .int .i64 ((rd_T46 l1 x12_2).f2.f0), .int .i64 ((rd_T46 l1 x12_2).f2.f1), .int .i64 ((rd_T46 l1 x12_2).f2.f2), .int .i64 ((rd_T46 l1 x12_2).f2.f3), .int .i64 ((rd_T46 l1 x12_2).f2.f4), .string ((rd_T46 l1 x12_2).f2.f5), .int .i64 ((rd_T46 l1 x12_2).f2.f6)]] (by rfl) rfl rfl (by (try simp only [List.map_toArray, List.map_cons, List.map_nil]); first | done | rfl | (simp only [List.length_drop, List.length_take]; rfl)) ?_
             with_reducible refine (signalbenchref47_satisfies.calls k2 ((rd_T50 l0_0 a2).f3.f0) ((rd_T50 l0_0 a2).f3.f1) ((rd_T50 l0_0 a2).f3.f2) ((rd_T50 l0_0 a2).f3.f3) ((rd_T50 l0_0 a2).f3.f4) ((rd_T46 l1 x12_2).f0) ((rd_T46 l1 x12_2).f1) ((rd_T46 l1 x12_2).f2.f0) ((rd_T46 l1 x12_2).f2.f1) ((rd_T46 l1 x12_2).f2.f2) ((rd_T46 l1 x12_2).f2.f3) ((rd_T46 l1 x12_2).f2.f4) ((rd_T46 l1 x12_2).f2.f5) ((rd_T46 l1 x12_2).f2.f6) false _ A30.out).mono ?_
             rintro e w35 ⟨rfl, hb⟩
             refine ⟨_, rfl, ?_⟩
             have n0_ := Aside0.mk (blk_below (bg BK349.out) hb)
             have n1_ := Aside0.mk (blk_below (bg BK351.out) hb)
             have n2_ := Aside0.mk (below_step (bs HB.out) hb)
             clear BK349
             clear BK351
             clear HB
             have BK349 := n0_
             have BK351 := n1_
             have HB := n2_
             clear n0_ n1_ n2_
             (try clear hb)
             (try clear hb2)
             (try clear hk)
             (try clear hi)
             refine hK.out _ _ ⟨(blk_cell BK351.out 0).trans rfl, (blk_cell BK351.out 1).trans rfl, (blk_cell BK351.out 2).trans rfl, (blk_cell BK351.out 3).trans rfl, (blk_cell BK351.out 4).trans rfl, (blk_cell BK351.out 5).trans rfl, (blk_cell BK351.out 6).trans rfl, (blk_cell BK351.out 7).trans rfl, (blk_cell BK351.out 8).trans rfl, (blk_cell BK351.out 9).trans rfl, (blk_cell BK351.out 10).trans rfl, (blk_cell BK351.out 11).trans rfl, ((HB.out.cell (World.block_lt_of_cell? w _ hw354_0)).trans hw354_0), ((HB.out.cell (World.block_lt_of_cell? w _ hw354_1)).trans hw354_1), ((HB.out.cell (World.block_lt_of_cell? w _ hw354_2)).trans hw354_2), ((HB.out.cell (World.block_lt_of_cell? w _ hw354_3)).trans hw354_3), ((HB.out.cell (World.block_lt_of_cell? w _ hw354_4)).trans hw354_4), ((HB.out.cell (World.block_lt_of_cell? w _ hw354_5)).trans hw354_5), ((HB.out.cell (World.block_lt_of_cell? w _ hw354_6)).trans hw354_6), ((HB.out.cell (World.block_lt_of_cell? w _ hw354_7)).trans hw354_7), ((HB.out.cell (World.block_lt_of_cell? w _ hw354_8)).trans hw354_8)⟩ (fun hHeld => ?_)
             clear hK K
             refine norm_ (a' := ?_) ?_ ?_
             rotate_left
             ·
              show Act.put _ (some 52) _ = _
              simp only [Act.put, List.setIfInBounds_toArray, List.set_cons_zero, List.set_cons_succ, i64_w, i32_w]
              rfl
             refine done_ (by kernel_rfl) ?_
             try go_wp2
             go_roundg k2
             case measure => have := HJ7.out; have := HK2.out; omega
             case rel => exact ⟨(wrap64 (x12_2 + 1)), (by first | rfl | (simp; done) | (simp [*]; done)), H', ⟨by have := HJ7.out; have := HK2.out; omega⟩, ⟨bg BK349.out⟩, ⟨bg BK351.out⟩, ⟨bs HB.out⟩⟩
           ·
            rw [if_neg c29] at H
            exact absurd H (by simp)
          ·
           rw [if_neg c28] at H
           exact absurd H (by simp)
         ·
          rw [if_neg c27] at H
          have c27b0 : decide (x12_2 < a4) = false := decide_eq_false c27
          clear c27
          obtain rfl := Option.some.inj H
          go_wp2
          go_ret
          exact ⟨by first | rfl | (simp [errW_none, errW_some] <;> rfl) | (simp [*, errW_none, errW_some] <;> rfl), bs HB.out⟩
      ·
       rw [if_neg c24] at H
       have c24b0 : ((rd_T50 l0_0 a2).f2) = false := by simpa using c24
       clear c24
       obtain rfl := Option.some.inj H
       have hnb36 := NB351_349.out
       have hnc36 := NB349_351.out
       obtain ⟨hcz37_0, hcz37_1, hcz37_2, hcz37_3, hcz37_4, hcz37_5, hcz37_6, hcz37_7, hcz37_8, hcz37_9, hcz37_10, hcz37_11⟩ := bc12 BK351.out
       obtain ⟨hfz37_0, hfz37_1, hfz37_2, hfz37_3, hfz37_4, hfz37_5, hfz37_6, hfz37_7, hfz37_8, hfz37_9, hfz37_10, hfz37_11⟩ := bf12 BK351.out
       go_wp2
       go_ret
       exact ⟨by first | rfl | (simp [errW_none, errW_some] <;> rfl) | (simp [*, errW_none, errW_some] <;> rfl), bs HB.out⟩
  ·
   rw [if_neg c7] at H
   exact absurd H (by simp)
 ·
  rw [if_neg c6] at H
  exact absurd H (by simp)

end Go.Proofs.Ytgdjiphljadlcaa.K
