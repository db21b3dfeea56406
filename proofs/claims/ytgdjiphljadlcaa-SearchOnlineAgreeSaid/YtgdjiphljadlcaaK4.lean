-- Printed by wip/hprint.py (this project's own driver of the kit's print) out of the translation; Lean checks it.
import Derived.Test.YtgdjiphljadlcaaK0
import Derived.Test.YtgdjiphljadlcaaK3
namespace Go.Proofs.Ytgdjiphljadlcaa.K
open Go.RowKit Go.Proofs.YtgdjiphljadlcaaW.PrintWords Go.Proofs.YtgdjiphljadlcaaW.PrintLast Go.Proofs.YtgdjiphljadlcaaW.PrintMore
attribute [local go_sem] max2_int min2_int max_two min_two max_three min_three max_four min_four   -- for this text's walks alone
set_option linter.unusedVariables false
set_option linter.unusedSimpArgs false

/-! ### trigauto_Check: function 20 -/
def trigauto_Check.l0 : Nat → List (S50) → Int → Int → Option (Int)
 | 0, _, _, _ => none
 | k + 1, x17, x18, x19 => if x19 < x18 then (if 0 ≤ x19 then (if x19 < (x17.length : Int) then ((trigauto_step.f k ((rd_T50 x17 x19).f0.f0) ((rd_T50 x17 x19).f0.f1) ((rd_T50 x17 x19).f0.f2) ((rd_T50 x17 x19).f0.f3) ((rd_T50 x17 x19).f0.f4) ((rd_T50 x17 x19).f1) ((rd_T50 x17 x19).f2) ((rd_T50 x17 x19).f3.f0) ((rd_T50 x17 x19).f3.f1) ((rd_T50 x17 x19).f3.f2) ((rd_T50 x17 x19).f3.f3) ((rd_T50 x17 x19).f3.f4) (x19 == 0)).bind fun t108 => (if t108 = 0 then (trigauto_Check.l0 k x17 x18 (wrap64 (x19 + 1))) else (some t108))) else (none)) else (none)) else (some 0)
def trigauto_Check.f (k : Nat) (l0_0 : List (S50)) : Option (Int) := if (l0_0.length : Int) = 0 then (some 1) else (if (l0_0.length : Int) > 32 then (some 6) else (trigauto_Check.l0 k l0_0 (l0_0.length : Int) 0))
set_option maxHeartbeats 8000000 in
set_option maxRecDepth 100000 in
theorem trigauto_Check.calls (k : Nat) (A0_0 : Option Addr) (c0_0 : Nat) (l0_0 : List (S50)) (r : Int) (w : World) (hr0_0 : Kd.C k50 w A0_0 l0_0.length l0_0) (hc0_0 : l0_0.length ≤ c0_0) (h : trigauto_Check.f k l0_0 = some r) :
  Calls Try.prog 20 #[.agg #[.slice A0_0 l0_0.length c0_0]] w fun e w' => e = .returned (.int .i64 r) ∧ Below w.heap.size w w' := by
 have hu31 := Try.underlying31
 have hu50 := Try.underlying50
 have HR0_0 := Aside0.mk hr0_0
 have HC0_0 := Aside0.mk hc0_0
 clear hr0_0 hc0_0
 have HB := Aside0.mk (Below.refl w.heap.size w)
 have H : (if (l0_0.length : Int) = 0 then (some 1) else (if (l0_0.length : Int) > 32 then (some 6) else (trigauto_Check.l0 k l0_0 (l0_0.length : Int) 0))) = some r := h
 clear h
 by_cases c2 : (l0_0.length : Int) = 0
 ·
  rw [if_pos c2] at H
  have c2b0 : ((l0_0.length : Int) == 0) = true := beq_iff_eq.mpr c2
  have c2b1 : ((l0_0.length : Int) != 0) = false := bne_eq_false_iff_eq.mpr c2
  clear c2
  obtain rfl := Option.some.inj H
  go_enter Try.func20, Try.ntmps20
  go_wp2_with (first | ((with_reducible refine gate_dst (N := 1) rfl ?_); refine box_event ?hg (N := 1) ?hd (cs := #[.slice A0_0 l0_0.length c0_0]) (t := 31) ?hr ?_; (case hd => rfl); (case hg => rfl); (case hr => first | (go_simp; done) | (go_simp; rfl)); intro gb105 hg w3 hbox hb; have n0_ := Aside0.mk (below_step (bs HB.out) hb); have n1_ := Aside0.mk (hbox); have n2_ := Aside0.mk ((by rw [hg]; exact (below_size (bs HB.out)) : w.heap.size ≤ gb105)); have n3_ := n2_; clear HB; have HB := n0_; have BK105 := n1_; have GW105 := n2_; have GE105 := n3_; clear n0_ n1_ n2_ n3_; clear hb hbox hg; have hcz4_0 : w3.cell? ⟨gb105, 0, none⟩ = some (.slice A0_0 l0_0.length c0_0) := (blk_cell BK105.out 0).trans rfl; have hfz4_0 := blk_frozen BK105.out 0))
  go_ret
  exact ⟨by first | rfl | (simp [errW_none, errW_some] <;> rfl) | (simp [*, errW_none, errW_some] <;> rfl), bs HB.out⟩
 ·
  rw [if_neg c2] at H
  have c2b0 : ((l0_0.length : Int) == 0) = false := beq_eq_false_iff_ne.mpr c2
  have c2b1 : ((l0_0.length : Int) != 0) = true := bne_iff_ne.mpr c2
  have c2b2 : ¬ (l0_0 = []) := fun h_ => c2 (by rw [h_]; rfl)
  by_cases c5 : (l0_0.length : Int) > 32
  ·
   rw [if_pos c5] at H
   have c5b0 : decide (32 < (l0_0.length : Int)) = true := decide_eq_true c5
   have c5b1 : decide (32 < l0_0.length) = true := decide_eq_true (by omega)
   clear c5
   obtain rfl := Option.some.inj H
   go_enter Try.func20, Try.ntmps20
   go_wp2_with (first | ((with_reducible refine gate_dst (N := 1) rfl ?_); refine box_event ?hg (N := 1) ?hd (cs := #[.slice A0_0 l0_0.length c0_0]) (t := 31) ?hr ?_; (case hd => rfl); (case hg => rfl); (case hr => first | (go_simp; done) | (go_simp; rfl)); intro gb105 hg w6 hbox hb; have n0_ := Aside0.mk (below_step (bs HB.out) hb); have n1_ := Aside0.mk (hbox); have n2_ := Aside0.mk ((by rw [hg]; exact (below_size (bs HB.out)) : w.heap.size ≤ gb105)); have n3_ := n2_; clear HB; have HB := n0_; have BK105 := n1_; have GW105 := n2_; have GE105 := n3_; clear n0_ n1_ n2_ n3_; clear hb hbox hg; have hcz7_0 : w6.cell? ⟨gb105, 0, none⟩ = some (.slice A0_0 l0_0.length c0_0) := (blk_cell BK105.out 0).trans rfl; have hfz7_0 := blk_frozen BK105.out 0))
   go_ret
   exact ⟨by first | rfl | (simp [errW_none, errW_some] <;> rfl) | (simp [*, errW_none, errW_some] <;> rfl), bs HB.out⟩
  ·
   rw [if_neg c5] at H
   have c5b0 : decide (32 < (l0_0.length : Int)) = false := decide_eq_false c5
   have c5b1 : decide (32 < l0_0.length) = false := decide_eq_false (by omega)
   clear c5
   have H' := Aside0.mk H
   clear H
   go_enter Try.func20, Try.ntmps20
   go_wp2_with (first | ((with_reducible refine gate_dst (N := 1) rfl ?_); refine box_event ?hg (N := 1) ?hd (cs := #[.slice A0_0 l0_0.length c0_0]) (t := 31) ?hr ?_; (case hd => rfl); (case hg => rfl); (case hr => first | (go_simp; done) | (go_simp; rfl)); intro gb105 hg w8 hbox hb; have n0_ := Aside0.mk (below_step (bs HB.out) hb); have n1_ := Aside0.mk (hbox); have n2_ := Aside0.mk ((by rw [hg]; exact (below_size (bs HB.out)) : w.heap.size ≤ gb105)); have n3_ := n2_; clear HB; have HB := n0_; have BK105 := n1_; have GW105 := n2_; have GE105 := n3_; clear n0_ n1_ n2_ n3_; clear hb hbox hg; have hcz9_0 : w8.cell? ⟨gb105, 0, none⟩ = some (.slice A0_0 l0_0.length c0_0) := (blk_cell BK105.out 0).trans rfl; have hfz9_0 := blk_frozen BK105.out 0))
   go_loopg [19] k (fun kq v19 w' => ∃ (x19_1 : Int), v19 = .int .i64 x19_1 ∧ Aside0 (trigauto_Check.l0 kq l0_0 (l0_0.length : Int) x19_1 = some r) ∧ Aside0 (kq ≤ k) ∧ Aside0 (w'.heap[gb105]? = some (.cells #[(.slice A0_0 l0_0.length c0_0)] 31 (0, 0))) ∧ Aside0 (Below w.heap.size w w'))
   case atStart => exact ⟨(0), (by first | rfl | (simp; done) | (simp [*]; done)), H', ⟨Nat.le_refl _⟩, ⟨bg BK105.out⟩, ⟨bs HB.out⟩⟩
   case round =>
    clear H'
    try clear c2
    try clear c2b0
    try clear c2b1
    try clear c2b2
    try clear p2
    try clear c5
    try clear c5b0
    try clear c5b1
    try clear hcz4_0
    try clear hcz7_0
    try clear hcz9_0
    try clear hfz4_0
    try clear hfz7_0
    try clear hfz9_0
    obtain ⟨x19_1, rfl, HA, HK1, BK105, HB⟩ := hrel
    cases gk with
    | zero => exact absurd HA.out (by simp [trigauto_Check.l0])
    | succ k1 =>
     have H := HA.out
     clear HA
     simp only [trigauto_Check.l0] at H
     by_cases c10 : x19_1 < (l0_0.length : Int)
     ·
      rw [if_pos c10] at H
      have c10b0 : decide (x19_1 < (l0_0.length : Int)) = true := decide_eq_true c10
      clear c10
      by_cases c11 : 0 ≤ x19_1
      ·
       rw [if_pos c11] at H
       have c11b0 : decide (0 ≤ x19_1) = true := decide_eq_true c11
       clear c11
       by_cases c12 : x19_1 < (l0_0.length : Int)
       ·
        rw [if_pos c12] at H
        have c12b0 : decide (x19_1 < (l0_0.length : Int)) = true := decide_eq_true c12
        clear c12
        replace H := Option.bind_eq_some_iff.mp H
        obtain ⟨t108, A130, H⟩ := H
        replace H : (if t108 = 0 then (trigauto_Check.l0 k1 l0_0 (l0_0.length : Int) (wrap64 (x19_1 + 1))) else (some t108)) = some r := H
        have A13 := Aside0.mk A130
        clear A130
        by_cases c14 : t108 = 0
        ·
         rw [if_pos c14] at H
         have c14b0 : (t108 == 0) = true := beq_iff_eq.mpr c14
         have c14b1 : (t108 != 0) = false := bne_eq_false_iff_eq.mpr c14
         clear c14
         have H' := Aside0.mk H
         clear H
         have p106 : 0 ≤ (x19_1 : Int) := of_decide_eq_true (by first | (with_reducible assumption) | assumption)
         have q106 : x19_1 < (l0_0.length : Int) := of_decide_eq_true (by first | (with_reducible assumption) | assumption)
         obtain ⟨ad106, e106, hx106_0, hx106_1, hx106_2, hx106_3, hx106_4, hx106_5, hx106_6, hx106_7, hx106_8, hx106_9, hx106_10, hx106_11⟩ := at_T50 HR0_0.out x19_1 p106 q106
         cases e106
         replace hx106_0 := pw_cell_below HB.out hx106_0
         replace hx106_1 := pw_cell_below HB.out hx106_1
         replace hx106_2 := pw_cell_below HB.out hx106_2
         replace hx106_3 := pw_cell_below HB.out hx106_3
         replace hx106_4 := pw_cell_below HB.out hx106_4
         replace hx106_5 := pw_cell_below HB.out hx106_5
         replace hx106_6 := pw_cell_below HB.out hx106_6
         replace hx106_7 := pw_cell_below HB.out hx106_7
         replace hx106_8 := pw_cell_below HB.out hx106_8
         replace hx106_9 := pw_cell_below HB.out hx106_9
         replace hx106_10 := pw_cell_below HB.out hx106_10
         replace hx106_11 := pw_cell_below HB.out hx106_11
         replace p106 := eq_true p106
         replace q106 := eq_true q106
         go_wp2_with (first | ((with_reducible refine gate_dst (N := 4) rfl ?_); refine box_event ?hg (N := 4) ?hd (cs := #[.int .i64 0, .int .i64 0, .int .i64 0, .int .i64 0, .int .i64 0, .int .i64 0, .bool false, .int .i64 0, .int .i64 0, .int .i64 0, .int .i64 0, .int .i64 0]) (t := 50) ?hr ?_; (case hd => rfl); (case hg => rfl); (case hr => first | (go_simp; done) | (go_simp; rfl)); intro gb107 hg w15 hbox hb; have n0_ := Aside0.mk (blk_below (bg BK105.out) hb); have n1_ := Aside0.mk (below_step (bs HB.out) hb); have n2_ := Aside0.mk (hbox); have n3_ := Aside0.mk ((by rw [hg]; exact (below_size (bs HB.out)) : w.heap.size ≤ gb107)); have n4_ := n3_; have n5_ := Aside0.mk ((by rw [hg]; exact Nat.ne_of_lt (blk_lt (bg BK105.out)) : gb105 ≠ gb107)); have n6_ := Aside0.mk ((by rw [hg]; exact Nat.ne_of_gt (blk_lt (bg BK105.out)) : gb107 ≠ gb105)); clear BK105; clear HB; have BK105 := n0_; have HB := n1_; have BK107 := n2_; have GW107 := n3_; have GE107 := n4_; have NB105_107 := n5_; have NB107_105 := n6_; clear n0_ n1_ n2_ n3_ n4_ n5_ n6_; clear hb hbox hg; have hnb16 := NB107_105.out; have hnc16 := NB105_107.out; obtain ⟨hcz17_0, hcz17_1, hcz17_2, hcz17_3, hcz17_4, hcz17_5, hcz17_6, hcz17_7, hcz17_8, hcz17_9, hcz17_10, hcz17_11⟩ := bc12 BK107.out; obtain ⟨hfz17_0, hfz17_1, hfz17_2, hfz17_3, hfz17_4, hfz17_5, hfz17_6, hfz17_7, hfz17_8, hfz17_9, hfz17_10, hfz17_11⟩ := bf12 BK107.out) | ((with_reducible refine gate_callee (f := 44) rfl ?_); refine goesL_ (some 27) rfl rfl Try.func44 (by kernel_rfl) rfl #[.agg #[.int .i64 ((rd_T50 l0_0 x19_1).f0.f0), .int .i64 ((rd_T50 l0_0 x19_1).f0.f1), .int .i64 ((rd_T50 l0_0 x19_1).f0.f2), .int .i64 ((rd_T50 l0_0 x19_1).f0.f3), .int .i64 ((rd_T50 l0_0 x19_1).f0.f4), .int .i64 ((rd_T50 l0_0 x19_1).f1), .bool ((rd_T50 l0_0 x19_1).f2), .int .i64 ((rd_T50 l0_0 x19_1).f3.f0), .int .i64 ((rd_T50 l0_0 x19_1).f3.f1), .int .i64 ((rd_T50 l0_0 x19_1).f3.f2), .int .i64 ((rd_T50 l0_0 x19_1).f3.f3), .int .i64 ((rd_T50 l0_0 x19_1).f3.f4)], .bool (x19_1 == 0)] rfl (by (try simp only [List.map_toArray, List.map_cons, List.map_nil]); first | done | rfl | (simp only [List.length_drop, List.length_take]; rfl)) ?_; (with_reducible refine (trigauto_step.calls k1 ((rd_T50 l0_0 x19_1).f0.f0) ((rd_T50 l0_0 x19_1).f0.f1) ((rd_T50 l0_0 x19_1).f0.f2) ((rd_T50 l0_0 x19_1).f0.f3) ((rd_T50 l0_0 x19_1).f0.f4) ((rd_T50 l0_0 x19_1).f1) ((rd_T50 l0_0 x19_1).f2) ((rd_T50 l0_0 x19_1).f3.f0) ((rd_T50 l0_0 x19_1).f3.f1) ((rd_T50 l0_0 x19_1).f3.f2) ((rd_T50 l0_0 x19_1).f3.f3) ((rd_T50 l0_0 x19_1).f3.f4) (x19_1 == 0) t108 _ A13.out).mono ?_); rintro e w18 ⟨rfl, hb⟩; refine ⟨_, rfl, ?_⟩; have n0_ := Aside0.mk (blk_below (g := gb105) (o := .cells #[.slice (some ad106) l0_0.length c0_0] 31 (0, 0)) (by (iterate 12 (with_reducible repeat (first | refine blk_drewN ?_ _ | refine blk_drew ?_ | refine blk_alloc ?_ _)); refine blk_far ?_ NB105_107.out _); exact bg BK105.out) hb); have n1_ := Aside0.mk (blk_below (g := gb107) (o := .cells #[.int .i64 ((rd_T50 l0_0 x19_1).f0.f0), .int .i64 ((rd_T50 l0_0 x19_1).f0.f1), .int .i64 ((rd_T50 l0_0 x19_1).f0.f2), .int .i64 ((rd_T50 l0_0 x19_1).f0.f3), .int .i64 ((rd_T50 l0_0 x19_1).f0.f4), .int .i64 ((rd_T50 l0_0 x19_1).f1), .bool ((rd_T50 l0_0 x19_1).f2), .int .i64 ((rd_T50 l0_0 x19_1).f3.f0), .int .i64 ((rd_T50 l0_0 x19_1).f3.f1), .int .i64 ((rd_T50 l0_0 x19_1).f3.f2), .int .i64 ((rd_T50 l0_0 x19_1).f3.f3), .int .i64 ((rd_T50 l0_0 x19_1).f3.f4)] 50 (0, 0)) (by exact pt12 (bg BK107.out)) hb); have n2_ := Aside0.mk (below_step (bs HB.out) hb); clear BK105; clear BK107; clear HB; have BK105 := n0_; have BK107 := n1_; have HB := n2_; clear n0_ n1_ n2_; (try clear hb); (try clear hb2); (try clear hk); (try clear hi)))
         go_roundg k1
         case measure => have := HK1.out; omega
         case rel => exact ⟨(wrap64 (x19_1 + 1)), (by first | rfl | (simp; done) | (simp [*]; done)), H', ⟨by have := HK1.out; omega⟩, ⟨bg BK105.out⟩, ⟨bs HB.out⟩⟩
        ·
         rw [if_neg c14] at H
         have c14b0 : (t108 == 0) = false := beq_eq_false_iff_ne.mpr c14
         have c14b1 : (t108 != 0) = true := bne_iff_ne.mpr c14
         obtain rfl := Option.some.inj H
         have p106 : 0 ≤ (x19_1 : Int) := of_decide_eq_true (by first | (with_reducible assumption) | assumption)
         have q106 : x19_1 < (l0_0.length : Int) := of_decide_eq_true (by first | (with_reducible assumption) | assumption)
         obtain ⟨ad106, e106, hx106_0, hx106_1, hx106_2, hx106_3, hx106_4, hx106_5, hx106_6, hx106_7, hx106_8, hx106_9, hx106_10, hx106_11⟩ := at_T50 HR0_0.out x19_1 p106 q106
         cases e106
         replace hx106_0 := pw_cell_below HB.out hx106_0
         replace hx106_1 := pw_cell_below HB.out hx106_1
         replace hx106_2 := pw_cell_below HB.out hx106_2
         replace hx106_3 := pw_cell_below HB.out hx106_3
         replace hx106_4 := pw_cell_below HB.out hx106_4
         replace hx106_5 := pw_cell_below HB.out hx106_5
         replace hx106_6 := pw_cell_below HB.out hx106_6
         replace hx106_7 := pw_cell_below HB.out hx106_7
         replace hx106_8 := pw_cell_below HB.out hx106_8
         replace hx106_9 := pw_cell_below HB.out hx106_9
         replace hx106_10 := pw_cell_below HB.out hx106_10
         replace hx106_11 := pw_cell_below HB.out hx106_11
         replace p106 := eq_true p106
         replace q106 := eq_true q106
         go_wp2_with (first | ((with_reducible refine gate_dst (N := 4) rfl ?_); refine box_event ?hg (N := 4) ?hd (cs := #[.int .i64 0, .int .i64 0, .int .i64 0, .int .i64 0, .int .i64 0, .int .i64 0, .bool false, .int .i64 0, .int .i64 0, .int .i64 0, .int .i64 0, .int .i64 0]) (t := 50) ?hr ?_; (case hd => rfl); (case hg => rfl); (case hr => first | (go_simp; done) | (go_simp; rfl)); intro gb107 hg w19 hbox hb; have n0_ := Aside0.mk (blk_below (bg BK105.out) hb); have n1_ := Aside0.mk (below_step (bs HB.out) hb); have n2_ := Aside0.mk (hbox); have n3_ := Aside0.mk ((by rw [hg]; exact (below_size (bs HB.out)) : w.heap.size ≤ gb107)); have n4_ := n3_; have n5_ := Aside0.mk ((by rw [hg]; exact Nat.ne_of_lt (blk_lt (bg BK105.out)) : gb105 ≠ gb107)); have n6_ := Aside0.mk ((by rw [hg]; exact Nat.ne_of_gt (blk_lt (bg BK105.out)) : gb107 ≠ gb105)); clear BK105; clear HB; have BK105 := n0_; have HB := n1_; have BK107 := n2_; have GW107 := n3_; have GE107 := n4_; have NB105_107 := n5_; have NB107_105 := n6_; clear n0_ n1_ n2_ n3_ n4_ n5_ n6_; clear hb hbox hg; have hnb20 := NB107_105.out; have hnc20 := NB105_107.out; obtain ⟨hcz21_0, hcz21_1, hcz21_2, hcz21_3, hcz21_4, hcz21_5, hcz21_6, hcz21_7, hcz21_8, hcz21_9, hcz21_10, hcz21_11⟩ := bc12 BK107.out; obtain ⟨hfz21_0, hfz21_1, hfz21_2, hfz21_3, hfz21_4, hfz21_5, hfz21_6, hfz21_7, hfz21_8, hfz21_9, hfz21_10, hfz21_11⟩ := bf12 BK107.out) | ((with_reducible refine gate_callee (f := 44) rfl ?_); refine goesL_ (some 27) rfl rfl Try.func44 (by kernel_rfl) rfl #[.agg #[.int .i64 ((rd_T50 l0_0 x19_1).f0.f0), .int .i64 ((rd_T50 l0_0 x19_1).f0.f1), .int .i64 ((rd_T50 l0_0 x19_1).f0.f2), .int .i64 ((rd_T50 l0_0 x19_1).f0.f3), .int .i64 ((rd_T50 l0_0 x19_1).f0.f4), .int .i64 ((rd_T50 l0_0 x19_1).f1), .bool ((rd_T50 l0_0 x19_1).f2), .int .i64 ((rd_T50 l0_0 x19_1).f3.f0), .int .i64 ((rd_T50 l0_0 x19_1).f3.f1), .int .i64 ((rd_T50 l0_0 x19_1).f3.f2), .int .i64 ((rd_T50 l0_0 x19_1).f3.f3), .int .i64 ((rd_T50 l0_0 x19_1).f3.f4)], .bool (x19_1 == 0)] rfl (by (try simp only [List.map_toArray, List.map_cons, List.map_nil]); first | done | rfl | (simp only [List.length_drop, List.length_take]; rfl)) ?_; (with_reducible refine (trigauto_step.calls k1 ((rd_T50 l0_0 x19_1).f0.f0) ((rd_T50 l0_0 x19_1).f0.f1) ((rd_T50 l0_0 x19_1).f0.f2) ((rd_T50 l0_0 x19_1).f0.f3) ((rd_T50 l0_0 x19_1).f0.f4) ((rd_T50 l0_0 x19_1).f1) ((rd_T50 l0_0 x19_1).f2) ((rd_T50 l0_0 x19_1).f3.f0) ((rd_T50 l0_0 x19_1).f3.f1) ((rd_T50 l0_0 x19_1).f3.f2) ((rd_T50 l0_0 x19_1).f3.f3) ((rd_T50 l0_0 x19_1).f3.f4) (x19_1 == 0) t108 _ A13.out).mono ?_); rintro e w22 ⟨rfl, hb⟩; refine ⟨_, rfl, ?_⟩; have n0_ := Aside0.mk (blk_below (g := gb105) (o := .cells #[.slice (some ad106) l0_0.length c0_0] 31 (0, 0)) (by (iterate 12 (with_reducible repeat (first | refine blk_drewN ?_ _ | refine blk_drew ?_ | refine blk_alloc ?_ _)); refine blk_far ?_ NB105_107.out _); exact bg BK105.out) hb); have n1_ := Aside0.mk (blk_below (g := gb107) (o := .cells #[.int .i64 ((rd_T50 l0_0 x19_1).f0.f0), .int .i64 ((rd_T50 l0_0 x19_1).f0.f1), .int .i64 ((rd_T50 l0_0 x19_1).f0.f2), .int .i64 ((rd_T50 l0_0 x19_1).f0.f3), .int .i64 ((rd_T50 l0_0 x19_1).f0.f4), .int .i64 ((rd_T50 l0_0 x19_1).f1), .bool ((rd_T50 l0_0 x19_1).f2), .int .i64 ((rd_T50 l0_0 x19_1).f3.f0), .int .i64 ((rd_T50 l0_0 x19_1).f3.f1), .int .i64 ((rd_T50 l0_0 x19_1).f3.f2), .int .i64 ((rd_T50 l0_0 x19_1).f3.f3), .int .i64 ((rd_T50 l0_0 x19_1).f3.f4)] 50 (0, 0)) (by exact pt12 (bg BK107.out)) hb); have n2_ := Aside0.mk (below_step (bs HB.out) hb); clear BK105; clear BK107; clear HB; have BK105 := n0_; have BK107 := n1_; have HB := n2_; clear n0_ n1_ n2_; (try clear hb); (try clear hb2); (try clear hk); (try clear hi)))
         go_ret
         exact ⟨by first | rfl | (simp [errW_none, errW_some] <;> rfl) | (simp [*, errW_none, errW_some] <;> rfl), bs HB.out⟩
       ·
        rw [if_neg c12] at H
        exact absurd H (by simp)
      ·
       rw [if_neg c11] at H
       exact absurd H (by simp)
     ·
      rw [if_neg c10] at H
      have c10b0 : decide (x19_1 < (l0_0.length : Int)) = false := decide_eq_false c10
      clear c10
      obtain rfl := Option.some.inj H
      go_wp2
      go_ret
      exact ⟨by first | rfl | (simp [errW_none, errW_some] <;> rfl) | (simp [*, errW_none, errW_some] <;> rfl), bs HB.out⟩

end Go.Proofs.Ytgdjiphljadlcaa.K
