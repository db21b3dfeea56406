-- Printed by wip/hprint.py (this project's own driver of the kit's print) out of the translation; Lean checks it.
import Derived.Test.YtgdjiphljadlcaaH0
import Derived.Test.YtgdjiphljadlcaaH8
import Derived.Test.YtgdjiphljadlcaaHFind
namespace Go.Proofs.Ytgdjiphljadlcaa.H
open Go.RowKit Go.Proofs.YtgdjiphljadlcaaW.PrintWords Go.Proofs.YtgdjiphljadlcaaW.PrintLast Go.Proofs.YtgdjiphljadlcaaW.PrintMore
attribute [local go_sem] max2_int min2_int max_two min_two max_three min_three max_four min_four   -- for this text's walks alone
set_option linter.unusedVariables false
set_option linter.unusedSimpArgs false

-- STUB: function 54 (stackdef_Find): YtgdjiphljadlcaaHFind

/-! ### trig_Check: function 25 -/
def trig_Check.l0 : Nat → List (S64) → Int → Int → List (S139) → List (S100) → Option (Int)
 | 0, _, _, _, _, _ => none
 | k + 1, x14, x15, x16, x119000, x119001 => if x16 < x15 then (if 0 ≤ x16 then (if x16 < (x14.length : Int) then ((stackdef_Find.f x119000 x119001 ((rd_T64 x14 x16).f0.f0)).bind fun t122 => (if t122 < 0 then (some 8) else (if (rd_T64 x14 x16).f3 = true then ((stackdef_Find.f x119000 x119001 ((rd_T64 x14 x16).f4.f0)).bind fun t123 => (if t123 < 0 then (some 8) else (trig_Check.l0 k x14 x15 (wrap64 (x16 + 1)) x119000 x119001))) else (trig_Check.l0 k x14 x15 (wrap64 (x16 + 1)) x119000 x119001)))) else (none)) else (none)) else (some 0)
def trig_Check.f (k : Nat) (a0_0 : ByteArray) (l0_1 : List (S64)) (l1_0 : List (S139)) (l1_1 : List (S100)) : Option (Int) := (trig_wrong.f k a0_0 l0_1).bind fun t119 => (if t119 = 0 then (trig_Check.l0 k l0_1 (l0_1.length : Int) 0 l1_0 l1_1) else (some t119))
set_option maxHeartbeats 8000000 in
set_option maxRecDepth 100000 in
theorem trig_Check.calls (k : Nat) (a0_0 : ByteArray) (A0_1 : Option Addr) (c0_1 : Nat) (l0_1 : List (S64)) (A1_0 : Option Addr) (c1_0 : Nat) (l1_0 : List (S139)) (A1_1 : Option Addr) (c1_1 : Nat) (l1_1 : List (S100)) (r : Int) (w : World) (hr0_1 : Kd.C k64 w A0_1 l0_1.length l0_1) (hc0_1 : l0_1.length ≤ c0_1) (hr1_0 : Kd.C k139 w A1_0 l1_0.length l1_0) (hc1_0 : l1_0.length ≤ c1_0) (hr1_1 : Kd.C k100 w A1_1 l1_1.length l1_1) (hc1_1 : l1_1.length ≤ c1_1) (h : trig_Check.f k a0_0 l0_1 l1_0 l1_1 = some r) :
  Calls Try.prog 25 #[.agg #[.string a0_0, .slice A0_1 l0_1.length c0_1], .agg #[.slice A1_0 l1_0.length c1_0, .slice A1_1 l1_1.length c1_1]] w fun e w' => e = .returned (.int .i64 r) ∧ Below w.heap.size w w' := by
 have hu24 := Try.underlying24
 have hu28 := Try.underlying28
 have hu64 := Try.underlying64
 have HR0_1 := Aside0.mk hr0_1
 have HC0_1 := Aside0.mk hc0_1
 clear hr0_1 hc0_1
 have HR1_0 := Aside0.mk hr1_0
 have HC1_0 := Aside0.mk hc1_0
 clear hr1_0 hc1_0
 have HR1_1 := Aside0.mk hr1_1
 have HC1_1 := Aside0.mk hc1_1
 clear hr1_1 hc1_1
 have HB := Aside0.mk (Below.refl w.heap.size w)
 have H : ((trig_wrong.f k a0_0 l0_1).bind fun t119 => (if t119 = 0 then (trig_Check.l0 k l0_1 (l0_1.length : Int) 0 l1_0 l1_1) else (some t119))) = some r := h
 clear h
 replace H := Option.bind_eq_some_iff.mp H
 obtain ⟨t119, A30, H⟩ := H
 replace H : (if t119 = 0 then (trig_Check.l0 k l0_1 (l0_1.length : Int) 0 l1_0 l1_1) else (some t119)) = some r := H
 have A3 := Aside0.mk A30
 clear A30
 by_cases c4 : t119 = 0
 ·
  rw [if_pos c4] at H
  have c4b0 : (t119 == 0) = true := beq_iff_eq.mpr c4
  have c4b1 : (t119 != 0) = false := bne_eq_false_iff_eq.mpr c4
  clear c4
  have H' := Aside0.mk H
  clear H
  go_enter Try.func25, Try.ntmps25
  go_wp2_with (first | ((with_reducible refine gate_dst (N := 2) rfl ?_); refine box_event ?hg (N := 2) ?hd (cs := #[.string a0_0, .slice A0_1 l0_1.length c0_1]) (t := 24) ?hr ?_; (case hd => rfl); (case hg => rfl); (case hr => first | (go_simp; done) | (go_simp; rfl)); intro gb117 hg w5 hbox hb; have n0_ := Aside0.mk (below_step (bs HB.out) hb); have n1_ := Aside0.mk (hbox); have n2_ := Aside0.mk ((by rw [hg]; exact (below_size (bs HB.out)) : w.heap.size ≤ gb117)); have n3_ := n2_; clear HB; have HB := n0_; have BK117 := n1_; have GW117 := n2_; have GE117 := n3_; clear n0_ n1_ n2_ n3_; clear hb hbox hg) | ((with_reducible refine gate_dst (N := 3) rfl ?_); refine box_event ?hg (N := 3) ?hd (cs := #[.slice A1_0 l1_0.length c1_0, .slice A1_1 l1_1.length c1_1]) (t := 28) ?hr ?_; (case hd => rfl); (case hg => rfl); (case hr => first | (go_simp; done) | (go_simp; rfl)); intro gb118 hg w6 hbox hb; have n0_ := Aside0.mk (blk_below (bg BK117.out) hb); have n1_ := Aside0.mk (below_step (bs HB.out) hb); have n2_ := Aside0.mk (hbox); have n3_ := Aside0.mk ((by rw [hg]; exact (below_size (bs HB.out)) : w.heap.size ≤ gb118)); have n4_ := n3_; have n5_ := Aside0.mk ((by rw [hg]; exact Nat.ne_of_lt (blk_lt (bg BK117.out)) : gb117 ≠ gb118)); have n6_ := Aside0.mk ((by rw [hg]; exact Nat.ne_of_gt (blk_lt (bg BK117.out)) : gb118 ≠ gb117)); clear BK117; clear HB; have BK117 := n0_; have HB := n1_; have BK118 := n2_; have GW118 := n3_; have GE118 := n4_; have NB117_118 := n5_; have NB118_117 := n6_; clear n0_ n1_ n2_ n3_ n4_ n5_ n6_; clear hb hbox hg; have hnb7 := NB117_118.out; have hnc7 := NB118_117.out; obtain ⟨hcz8_0, hcz8_1⟩ := bc2 BK117.out; obtain ⟨hfz8_0, hfz8_1⟩ := bf2 BK117.out) | ((with_reducible refine gate_callee (f := 53) rfl ?_); refine goesL_ (some 9) rfl rfl Try.func53 (by kernel_rfl) rfl #[.agg #[.string a0_0, .slice A0_1 l0_1.length c0_1]] rfl (by (try simp only [List.map_toArray, List.map_cons, List.map_nil]); first | done | rfl | (simp only [List.length_drop, List.length_take]; rfl)) ?_; (with_reducible refine (trig_wrong.calls k a0_0 _ _ l0_1 t119 _ ?side1 ?side2 A3.out).mono ?_); (case side1 => repeat (first | exact (Kd.C_below HR0_1.out HB.out) | (with_reducible refine Kd.C_alloc ?_ _) | (with_reducible refine Kd.C_drewN ?_ _) | (with_reducible refine Kd.C_drew ?_))); (case side2 => exact HC0_1.out); rintro e w9 ⟨rfl, hb⟩; refine ⟨_, rfl, ?_⟩; have n0_ := Aside0.mk (blk_below (bg BK117.out) hb); have n1_ := Aside0.mk (blk_below (bg BK118.out) hb); have n2_ := Aside0.mk (below_step (bs HB.out) hb); clear BK117; clear BK118; clear HB; have BK117 := n0_; have BK118 := n1_; have HB := n2_; clear n0_ n1_ n2_; (try clear hb); (try clear hb2); (try clear hk); (try clear hi); obtain ⟨hcz10_0, hcz10_1⟩ := bc2 BK117.out; obtain ⟨hfz10_0, hfz10_1⟩ := bf2 BK117.out))
  go_loopg [16] k (fun kq v16 w' => ∃ (x16_1 : Int), v16 = .int .i64 x16_1 ∧ Aside0 (trig_Check.l0 kq l0_1 (l0_1.length : Int) x16_1 l1_0 l1_1 = some r) ∧ Aside0 (kq ≤ k) ∧ Aside0 (w'.heap[gb117]? = some (.cells #[.string a0_0, (.slice A0_1 l0_1.length c0_1)] 24 (0, 0))) ∧ Aside0 (w'.heap[gb118]? = some (.cells #[(.slice A1_0 l1_0.length c1_0), (.slice A1_1 l1_1.length c1_1)] 28 (0, 0))) ∧ Aside0 (Below w.heap.size w w'))
  case atStart => exact ⟨(0), (by first | rfl | (simp; done) | (simp [*]; done)), H', ⟨Nat.le_refl _⟩, ⟨bg BK117.out⟩, ⟨bg BK118.out⟩, ⟨bs HB.out⟩⟩
  case round =>
   clear H'
   try clear c1
   try clear c2
   try clear p2
   try clear c4
   try clear c4b0
   try clear c4b1
   try clear c5
   try clear c7
   try clear hcz10_0 hcz10_1
   try clear hcz8_0 hcz8_1
   try clear hfz10_0 hfz10_1
   try clear hfz8_0 hfz8_1
   obtain ⟨x16_1, rfl, HA, HK1, BK117, BK118, HB⟩ := hrel
   cases gk with
   | zero => exact absurd HA.out (by simp [trig_Check.l0])
   | succ k1 =>
    have H := HA.out
    clear HA
    simp only [trig_Check.l0] at H
    by_cases c11 : x16_1 < (l0_1.length : Int)
    ·
     rw [if_pos c11] at H
     have c11b0 : decide (x16_1 < (l0_1.length : Int)) = true := decide_eq_true c11
     clear c11
     by_cases c12 : 0 ≤ x16_1
     ·
      rw [if_pos c12] at H
      have c12b0 : decide (0 ≤ x16_1) = true := decide_eq_true c12
      clear c12
      by_cases c13 : x16_1 < (l0_1.length : Int)
      ·
       rw [if_pos c13] at H
       have c13b0 : decide (x16_1 < (l0_1.length : Int)) = true := decide_eq_true c13
       clear c13
       replace H := Option.bind_eq_some_iff.mp H
       obtain ⟨t122, A140, H⟩ := H
       replace H : (if t122 < 0 then (some 8) else (if (rd_T64 l0_1 x16_1).f3 = true then ((stackdef_Find.f l1_0 l1_1 ((rd_T64 l0_1 x16_1).f4.f0)).bind fun t123 => (if t123 < 0 then (some 8) else (trig_Check.l0 k1 l0_1 (l0_1.length : Int) (wrap64 (x16_1 + 1)) l1_0 l1_1))) else (trig_Check.l0 k1 l0_1 (l0_1.length : Int) (wrap64 (x16_1 + 1)) l1_0 l1_1))) = some r := H
       have A14 := Aside0.mk A140
       clear A140
       by_cases c15 : t122 < 0
       ·
        rw [if_pos c15] at H
        have c15b0 : decide (t122 < 0) = true := decide_eq_true c15
        clear c15
        obtain rfl := Option.some.inj H
        have p120 : 0 ≤ (x16_1 : Int) := of_decide_eq_true (by first | (with_reducible assumption) | assumption)
        have q120 : x16_1 < (l0_1.length : Int) := of_decide_eq_true (by first | (with_reducible assumption) | assumption)
        obtain ⟨ad120, e120, hx120_0, hx120_1, hx120_2, hx120_3, hx120_4, hx120_5, hx120_6, hx120_7, hx120_8, hx120_9, hx120_10, hx120_11, hx120_12⟩ := at_T64 HR0_1.out x16_1 p120 q120
        cases e120
        replace hx120_0 := pw_cell_below HB.out hx120_0
        replace hx120_1 := pw_cell_below HB.out hx120_1
        replace hx120_2 := pw_cell_below HB.out hx120_2
        replace hx120_3 := pw_cell_below HB.out hx120_3
        replace hx120_4 := pw_cell_below HB.out hx120_4
        replace hx120_5 := pw_cell_below HB.out hx120_5
        replace hx120_6 := pw_cell_below HB.out hx120_6
        replace hx120_7 := pw_cell_below HB.out hx120_7
        replace hx120_8 := pw_cell_below HB.out hx120_8
        replace hx120_9 := pw_cell_below HB.out hx120_9
        replace hx120_10 := pw_cell_below HB.out hx120_10
        replace hx120_11 := pw_cell_below HB.out hx120_11
        replace hx120_12 := pw_cell_below HB.out hx120_12
        replace p120 := eq_true p120
        replace q120 := eq_true q120
        go_wp2_with (first | ((with_reducible refine gate_dst (N := 7) rfl ?_); refine box_event ?hg (N := 7) ?hd (cs := #[.string (⟨#[]⟩ : ByteArray), .int .i64 0, .int .i64 0, .int .i64 0, .int .i64 0, .int .i64 0, .int .i64 0, .bool false, .string (⟨#[]⟩ : ByteArray), .int .i64 0, .int .i64 0, .int .i64 0, .int .i64 0]) (t := 64) ?hr ?_; (case hd => rfl); (case hg => rfl); (case hr => first | (go_simp; done) | (go_simp; rfl)); intro gb121 hg w16 hbox hb; have n0_ := Aside0.mk (blk_below (bg BK117.out) hb); have n1_ := Aside0.mk (blk_below (bg BK118.out) hb); have n2_ := Aside0.mk (below_step (bs HB.out) hb); have n3_ := Aside0.mk (hbox); have n4_ := Aside0.mk ((by rw [hg]; exact (below_size (bs HB.out)) : w.heap.size ≤ gb121)); have n5_ := n4_; have n6_ := Aside0.mk ((by rw [hg]; exact Nat.ne_of_lt (blk_lt (bg BK117.out)) : gb117 ≠ gb121)); have n7_ := Aside0.mk ((by rw [hg]; exact Nat.ne_of_gt (blk_lt (bg BK117.out)) : gb121 ≠ gb117)); have n8_ := Aside0.mk ((by rw [hg]; exact Nat.ne_of_lt (blk_lt (bg BK118.out)) : gb118 ≠ gb121)); have n9_ := Aside0.mk ((by rw [hg]; exact Nat.ne_of_gt (blk_lt (bg BK118.out)) : gb121 ≠ gb118)); clear BK117; clear BK118; clear HB; have BK117 := n0_; have BK118 := n1_; have HB := n2_; have BK121 := n3_; have GW121 := n4_; have GE121 := n5_; have NB117_121 := n6_; have NB121_117 := n7_; have NB118_121 := n8_; have NB121_118 := n9_; clear n0_ n1_ n2_ n3_ n4_ n5_ n6_ n7_ n8_ n9_; clear hb hbox hg; have hnb17 := NB121_117.out; have hnc17 := NB117_121.out; have hnb18 := NB121_118.out; have hnc18 := NB118_121.out; obtain ⟨hcz19_0, hcz19_1, hcz19_2, hcz19_3, hcz19_4, hcz19_5, hcz19_6, hcz19_7, hcz19_8, hcz19_9, hcz19_10, hcz19_11, hcz19_12⟩ := bc13 BK121.out; obtain ⟨hfz19_0, hfz19_1, hfz19_2, hfz19_3, hfz19_4, hfz19_5, hfz19_6, hfz19_7, hfz19_8, hfz19_9, hfz19_10, hfz19_11, hfz19_12⟩ := bf13 BK121.out; have hnb20 := NB118_117.out; have hnc20 := NB117_118.out; obtain ⟨hcz21_0, hcz21_1⟩ := bc2 BK118.out; obtain ⟨hfz21_0, hfz21_1⟩ := bf2 BK118.out) | ((with_reducible refine gate_callee (f := 54) rfl ?_); refine goesL_ (some 24) rfl rfl Try.func54 (by kernel_rfl) rfl #[.agg #[.slice A1_0 l1_0.length c1_0, .slice A1_1 l1_1.length c1_1], .string ((rd_T64 l0_1 x16_1).f0.f0)] rfl (by (try simp only [List.map_toArray, List.map_cons, List.map_nil]); first | done | rfl | (simp only [List.length_drop, List.length_take]; rfl)) ?_; (with_reducible refine (stackdef_Find.calls _ _ l1_0 _ _ l1_1 ((rd_T64 l0_1 x16_1).f0.f0) t122 _ ?side1 ?side2 ?side3 ?side4 A14.out).mono ?_); (case side1 => exact Kd.C_below HR1_0.out (bs HB.out)); (case side2 => exact HC1_0.out); (case side3 => exact Kd.C_below HR1_1.out (bs HB.out)); (case side4 => exact HC1_1.out); rintro e w22 ⟨rfl, hb⟩; refine ⟨_, rfl, ?_⟩; have n0_ := Aside0.mk (blk_below (g := gb117) (o := .cells #[.string a0_0, .slice (some ad120) l0_1.length c0_1] 24 (0, 0)) (by (iterate 13 (with_reducible repeat (first | refine blk_drewN ?_ _ | refine blk_drew ?_ | refine blk_alloc ?_ _)); refine blk_far ?_ NB117_121.out _); exact bg BK117.out) hb); have n1_ := Aside0.mk (blk_below (g := gb118) (o := .cells #[.slice A1_0 l1_0.length c1_0, .slice A1_1 l1_1.length c1_1] 28 (0, 0)) (by (iterate 13 (with_reducible repeat (first | refine blk_drewN ?_ _ | refine blk_drew ?_ | refine blk_alloc ?_ _)); refine blk_far ?_ NB118_121.out _); exact bg BK118.out) hb); have n2_ := Aside0.mk (blk_below (g := gb121) (o := .cells #[.string ((rd_T64 l0_1 x16_1).f0.f0), .int .i64 ((rd_T64 l0_1 x16_1).f0.f1), .int .i64 ((rd_T64 l0_1 x16_1).f0.f2), .int .i64 ((rd_T64 l0_1 x16_1).f0.f3), .int .i64 ((rd_T64 l0_1 x16_1).f0.f4), .int .i64 ((rd_T64 l0_1 x16_1).f1), .int .i64 ((rd_T64 l0_1 x16_1).f2), .bool ((rd_T64 l0_1 x16_1).f3), .string ((rd_T64 l0_1 x16_1).f4.f0), .int .i64 ((rd_T64 l0_1 x16_1).f4.f1), .int .i64 ((rd_T64 l0_1 x16_1).f4.f2), .int .i64 ((rd_T64 l0_1 x16_1).f4.f3), .int .i64 ((rd_T64 l0_1 x16_1).f4.f4)] 64 (0, 0)) (by exact pt13 (bg BK121.out)) hb); have n3_ := Aside0.mk (below_step (bs HB.out) hb); clear BK117; clear BK118; clear BK121; clear HB; have BK117 := n0_; have BK118 := n1_; have BK121 := n2_; have HB := n3_; clear n0_ n1_ n2_ n3_; (try clear hb); (try clear hb2); (try clear hk); (try clear hi)))
        go_ret
        exact ⟨by first | rfl | (simp [errW_none, errW_some] <;> rfl) | (simp [*, errW_none, errW_some] <;> rfl), bs HB.out⟩
       ·
        rw [if_neg c15] at H
        have c15b0 : decide (t122 < 0) = false := decide_eq_false c15
        clear c15
        obtain ⟨bq23, hbq23⟩ : ∃ b_ : Bool, b_ = ((rd_T64 l0_1 x16_1).f3) := ⟨_, rfl⟩
        replace H : (if bq23 = true then ((stackdef_Find.f l1_0 l1_1 ((rd_T64 l0_1 x16_1).f4.f0)).bind fun t123 => (if t123 < 0 then (some 8) else (trig_Check.l0 k1 l0_1 (l0_1.length : Int) (wrap64 (x16_1 + 1)) l1_0 l1_1))) else (trig_Check.l0 k1 l0_1 (l0_1.length : Int) (wrap64 (x16_1 + 1)) l1_0 l1_1)) = some r := by rw [← hbq23] at H; exact H
        have Nbq23 := Aside0.mk hbq23
        clear hbq23
        by_cases c24 : bq23 = true
        ·
         subst c24
         (try rw [← Nbq23.out] at BK117)
         (try rw [← Nbq23.out] at BK118)
         (try rw [← Nbq23.out] at BK121)
         have H1 : ((stackdef_Find.f l1_0 l1_1 ((rd_T64 l0_1 x16_1).f4.f0)).bind fun t123 => (if t123 < 0 then (some 8) else (trig_Check.l0 k1 l0_1 (l0_1.length : Int) (wrap64 (x16_1 + 1)) l1_0 l1_1))) = some r := by rw [if_pos rfl] at H; exact H
         clear H
         have H := H1
         clear H1
         replace H := Option.bind_eq_some_iff.mp H
         obtain ⟨t123, A250, H⟩ := H
         replace H : (if t123 < 0 then (some 8) else (trig_Check.l0 k1 l0_1 (l0_1.length : Int) (wrap64 (x16_1 + 1)) l1_0 l1_1)) = some r := H
         have A25 := Aside0.mk A250
         clear A250
         by_cases c26 : t123 < 0
         ·
          rw [if_pos c26] at H
          have c26b0 : decide (t123 < 0) = true := decide_eq_true c26
          clear c26
          obtain rfl := Option.some.inj H
          have p120 : 0 ≤ (x16_1 : Int) := of_decide_eq_true (by first | (with_reducible assumption) | assumption)
          have q120 : x16_1 < (l0_1.length : Int) := of_decide_eq_true (by first | (with_reducible assumption) | assumption)
          obtain ⟨ad120, e120, hx120_0, hx120_1, hx120_2, hx120_3, hx120_4, hx120_5, hx120_6, hx120_7, hx120_8, hx120_9, hx120_10, hx120_11, hx120_12⟩ := at_T64 HR0_1.out x16_1 p120 q120
          (try rw [← Nbq23.out] at hx120_7)
          cases e120
          replace hx120_0 := pw_cell_below HB.out hx120_0
          replace hx120_1 := pw_cell_below HB.out hx120_1
          replace hx120_2 := pw_cell_below HB.out hx120_2
          replace hx120_3 := pw_cell_below HB.out hx120_3
          replace hx120_4 := pw_cell_below HB.out hx120_4
          replace hx120_5 := pw_cell_below HB.out hx120_5
          replace hx120_6 := pw_cell_below HB.out hx120_6
          replace hx120_7 := pw_cell_below HB.out hx120_7
          replace hx120_8 := pw_cell_below HB.out hx120_8
          replace hx120_9 := pw_cell_below HB.out hx120_9
          replace hx120_10 := pw_cell_below HB.out hx120_10
          replace hx120_11 := pw_cell_below HB.out hx120_11
          replace hx120_12 := pw_cell_below HB.out hx120_12
          replace p120 := eq_true p120
          replace q120 := eq_true q120
          go_wp2_with (first | ((with_reducible refine gate_dst (N := 7) rfl ?_); refine box_event ?hg (N := 7) ?hd (cs := #[.string (⟨#[]⟩ : ByteArray), .int .i64 0, .int .i64 0, .int .i64 0, .int .i64 0, .int .i64 0, .int .i64 0, .bool false, .string (⟨#[]⟩ : ByteArray), .int .i64 0, .int .i64 0, .int .i64 0, .int .i64 0]) (t := 64) ?hr ?_; (case hd => rfl); (case hg => rfl); (case hr => first | (go_simp; done) | (go_simp; rfl)); intro gb121 hg w27 hbox hb; have n0_ := Aside0.mk (blk_below (bg BK117.out) hb); have n1_ := Aside0.mk (blk_below (bg BK118.out) hb); have n2_ := Aside0.mk (below_step (bs HB.out) hb); have n3_ := Aside0.mk (hbox); have n4_ := Aside0.mk ((by rw [hg]; exact (below_size (bs HB.out)) : w.heap.size ≤ gb121)); have n5_ := n4_; have n6_ := Aside0.mk ((by rw [hg]; exact Nat.ne_of_lt (blk_lt (bg BK117.out)) : gb117 ≠ gb121)); have n7_ := Aside0.mk ((by rw [hg]; exact Nat.ne_of_gt (blk_lt (bg BK117.out)) : gb121 ≠ gb117)); have n8_ := Aside0.mk ((by rw [hg]; exact Nat.ne_of_lt (blk_lt (bg BK118.out)) : gb118 ≠ gb121)); have n9_ := Aside0.mk ((by rw [hg]; exact Nat.ne_of_gt (blk_lt (bg BK118.out)) : gb121 ≠ gb118)); clear BK117; clear BK118; clear HB; have BK117 := n0_; have BK118 := n1_; have HB := n2_; have BK121 := n3_; have GW121 := n4_; have GE121 := n5_; have NB117_121 := n6_; have NB121_117 := n7_; have NB118_121 := n8_; have NB121_118 := n9_; clear n0_ n1_ n2_ n3_ n4_ n5_ n6_ n7_ n8_ n9_; clear hb hbox hg; have hnb28 := NB121_117.out; have hnc28 := NB117_121.out; have hnb29 := NB121_118.out; have hnc29 := NB118_121.out; obtain ⟨hcz30_0, hcz30_1, hcz30_2, hcz30_3, hcz30_4, hcz30_5, hcz30_6, hcz30_7, hcz30_8, hcz30_9, hcz30_10, hcz30_11, hcz30_12⟩ := bc13 BK121.out; obtain ⟨hfz30_0, hfz30_1, hfz30_2, hfz30_3, hfz30_4, hfz30_5, hfz30_6, hfz30_7, hfz30_8, hfz30_9, hfz30_10, hfz30_11, hfz30_12⟩ := bf13 BK121.out; have hnb31 := NB118_117.out; have hnc31 := NB117_118.out; obtain ⟨hcz32_0, hcz32_1⟩ := bc2 BK118.out; obtain ⟨hfz32_0, hfz32_1⟩ := bf2 BK118.out) | ((with_reducible refine gate_callee (f := 54) rfl ?_); refine goesL_ (some 24) rfl rfl Try.func54 (by kernel_rfl) rfl #[.agg #[.slice A1_0 l1_0.length c1_0, .slice A1_1 l1_1.length c1_1], .string ((rd_T64 l0_1 x16_1).f0.f0)] rfl (by (try simp only [List.map_toArray, List.map_cons, List.map_nil]); first | done | rfl | (simp only [List.length_drop, List.length_take]; rfl)) ?_; (with_reducible refine (stackdef_Find.calls _ _ l1_0 _ _ l1_1 ((rd_T64 l0_1 x16_1).f0.f0) t122 _ ?side1 ?side2 ?side3 ?side4 A14.out).mono ?_); (case side1 => exact Kd.C_below HR1_0.out (bs HB.out)); (case side2 => exact HC1_0.out); (case side3 => exact Kd.C_below HR1_1.out (bs HB.out)); (case side4 => exact HC1_1.out); rintro e w33 ⟨rfl, hb⟩; refine ⟨_, rfl, ?_⟩; have n0_ := Aside0.mk (blk_below (g := gb117) (o := .cells #[.string a0_0, .slice (some ad120) l0_1.length c0_1] 24 (0, 0)) (by (iterate 13 (with_reducible repeat (first | refine blk_drewN ?_ _ | refine blk_drew ?_ | refine blk_alloc ?_ _)); refine blk_far ?_ NB117_121.out _); exact bg BK117.out) hb); have n1_ := Aside0.mk (blk_below (g := gb118) (o := .cells #[.slice A1_0 l1_0.length c1_0, .slice A1_1 l1_1.length c1_1] 28 (0, 0)) (by (iterate 13 (with_reducible repeat (first | refine blk_drewN ?_ _ | refine blk_drew ?_ | refine blk_alloc ?_ _)); refine blk_far ?_ NB118_121.out _); exact bg BK118.out) hb); have n2_ := Aside0.mk (blk_below (g := gb121) (o := .cells #[.string ((rd_T64 l0_1 x16_1).f0.f0), .int .i64 ((rd_T64 l0_1 x16_1).f0.f1), .int .i64 ((rd_T64 l0_1 x16_1).f0.f2), .int .i64 ((rd_T64 l0_1 x16_1).f0.f3), .int .i64 ((rd_T64 l0_1 x16_1).f0.f4), .int .i64 ((rd_T64 l0_1 x16_1).f1), .int .i64 ((rd_T64 l0_1 x16_1).f2), .bool true, .string ((rd_T64 l0_1 x16_1).f4.f0), .int .i64 ((rd_T64 l0_1 x16_1).f4.f1), .int .i64 ((rd_T64 l0_1 x16_1).f4.f2), .int .i64 ((rd_T64 l0_1 x16_1).f4.f3), .int .i64 ((rd_T64 l0_1 x16_1).f4.f4)] 64 (0, 0)) (by exact pt13 (bg BK121.out)) hb); have n3_ := Aside0.mk (below_step (bs HB.out) hb); clear BK117; clear BK118; clear BK121; clear HB; have BK117 := n0_; have BK118 := n1_; have BK121 := n2_; have HB := n3_; clear n0_ n1_ n2_ n3_; (try clear hb); (try clear hb2); (try clear hk); (try clear hi); obtain ⟨hcz34_0, hcz34_1, hcz34_2, hcz34_3, hcz34_4, hcz34_5, hcz34_6, hcz34_7, hcz34_8, hcz34_9, hcz34_10, hcz34_11, hcz34_12⟩ := bc13 BK121.out; obtain ⟨hfz34_0, hfz34_1, hfz34_2, hfz34_3, hfz34_4, hfz34_5, hfz34_6, hfz34_7, hfz34_8, hfz34_9, hfz34_10, hfz34_11, hfz34_12⟩ := bf13 BK121.out; obtain ⟨hcz35_0, hcz35_1⟩ := bc2 BK118.out; obtain ⟨hfz35_0, hfz35_1⟩ := bf2 BK118.out) | (go_at_call 54; (with_reducible refine (stackdef_Find.calls _ _ l1_0 _ _ l1_1 ((rd_T64 l0_1 x16_1).f4.f0) t123 _ ?side1 ?side2 ?side3 ?side4 A25.out).mono ?_); (case side1 => repeat (first | exact (Kd.C_below HR1_0.out HB.out) | (with_reducible refine Kd.C_alloc ?_ _) | (with_reducible refine Kd.C_drewN ?_ _) | (with_reducible refine Kd.C_drew ?_))); (case side2 => exact HC1_0.out); (case side3 => repeat (first | exact (Kd.C_below HR1_1.out HB.out) | (with_reducible refine Kd.C_alloc ?_ _) | (with_reducible refine Kd.C_drewN ?_ _) | (with_reducible refine Kd.C_drew ?_))); (case side4 => exact HC1_1.out); rintro e w36 ⟨rfl, hb⟩; have n0_ := Aside0.mk (blk_below (bg BK117.out) hb); have n1_ := Aside0.mk (blk_below (bg BK118.out) hb); have n2_ := Aside0.mk (blk_below (bg BK121.out) hb); have n3_ := Aside0.mk (below_step (bs HB.out) hb); clear BK117; clear BK118; clear BK121; clear HB; have BK117 := n0_; have BK118 := n1_; have BK121 := n2_; have HB := n3_; clear n0_ n1_ n2_ n3_; (try clear hb); (try clear hb2); (try clear hk); (try clear hi)))
          go_ret
          exact ⟨by first | rfl | (simp [errW_none, errW_some] <;> rfl) | (simp [*, errW_none, errW_some] <;> rfl), bs HB.out⟩
         ·
          rw [if_neg c26] at H
          have c26b0 : decide (t123 < 0) = false := decide_eq_false c26
          clear c26
          have H' := Aside0.mk H
          clear H
          have p120 : 0 ≤ (x16_1 : Int) := of_decide_eq_true (by first | (with_reducible assumption) | assumption)
          have q120 : x16_1 < (l0_1.length : Int) := of_decide_eq_true (by first | (with_reducible assumption) | assumption)
          obtain ⟨ad120, e120, hx120_0, hx120_1, hx120_2, hx120_3, hx120_4, hx120_5, hx120_6, hx120_7, hx120_8, hx120_9, hx120_10, hx120_11, hx120_12⟩ := at_T64 HR0_1.out x16_1 p120 q120
          (try rw [← Nbq23.out] at hx120_7)
          cases e120
          replace hx120_0 := pw_cell_below HB.out hx120_0
          replace hx120_1 := pw_cell_below HB.out hx120_1
          replace hx120_2 := pw_cell_below HB.out hx120_2
          replace hx120_3 := pw_cell_below HB.out hx120_3
          replace hx120_4 := pw_cell_below HB.out hx120_4
          replace hx120_5 := pw_cell_below HB.out hx120_5
          replace hx120_6 := pw_cell_below HB.out hx120_6
          replace hx120_7 := pw_cell_below HB.out hx120_7
          replace hx120_8 := pw_cell_below HB.out hx120_8
          replace hx120_9 := pw_cell_below HB.out hx120_9
          replace hx120_10 := pw_cell_below HB.out hx120_10
          replace hx120_11 := pw_cell_below HB.out hx120_11
          replace hx120_12 := pw_cell_below HB.out hx120_12
          replace p120 := eq_true p120
          replace q120 := eq_true q120
          go_wp2_with (first | ((with_reducible refine gate_dst (N := 7) rfl ?_); refine box_event ?hg (N := 7) ?hd (cs := #[.string (⟨#[]⟩ : ByteArray), .int .i64 0, .int .i64 0, .int .i64 0, .int .i64 0, .int .i64 0, .int .i64 0, .bool false, .string (⟨#[]⟩ : ByteArray), .int .i64 0, .int .i64 0, .int .i64 0, .int .i64 0]) (t := 64) ?hr ?_; (case hd => rfl); (case hg => rfl); (case hr => first | (go_simp; done) | (go_simp; rfl)); intro gb121 hg w37 hbox hb; have n0_ := Aside0.mk (blk_below (bg BK117.out) hb); have n1_ := Aside0.mk (blk_below (bg BK118.out) hb); have n2_ := Aside0.mk (below_step (bs HB.out) hb); have n3_ := Aside0.mk (hbox); have n4_ := Aside0.mk ((by rw [hg]; exact (below_size (bs HB.out)) : w.heap.size ≤ gb121)); have n5_ := n4_; have n6_ := Aside0.mk ((by rw [hg]; exact Nat.ne_of_lt (blk_lt (bg BK117.out)) : gb117 ≠ gb121)); have n7_ := Aside0.mk ((by rw [hg]; exact Nat.ne_of_gt (blk_lt (bg BK117.out)) : gb121 ≠ gb117)); have n8_ := Aside0.mk ((by rw [hg]; exact Nat.ne_of_lt (blk_lt (bg BK118.out)) : gb118 ≠ gb121)); have n9_ := Aside0.mk ((by rw [hg]; exact Nat.ne_of_gt (blk_lt (bg BK118.out)) : gb121 ≠ gb118)); clear BK117; clear BK118; clear HB; have BK117 := n0_; have BK118 := n1_; have HB := n2_; have BK121 := n3_; have GW121 := n4_; have GE121 := n5_; have NB117_121 := n6_; have NB121_117 := n7_; have NB118_121 := n8_; have NB121_118 := n9_; clear n0_ n1_ n2_ n3_ n4_ n5_ n6_ n7_ n8_ n9_; clear hb hbox hg; have hnb38 := NB121_117.out; have hnc38 := NB117_121.out; have hnb39 := NB121_118.out; have hnc39 := NB118_121.out; obtain ⟨hcz40_0, hcz40_1, hcz40_2, hcz40_3, hcz40_4, hcz40_5, hcz40_6, hcz40_7, hcz40_8, hcz40_9, hcz40_10, hcz40_11, hcz40_12⟩ := bc13 BK121.out; obtain ⟨hfz40_0, hfz40_1, hfz40_2, hfz40_3, hfz40_4, hfz40_5, hfz40_6, hfz40_7, hfz40_8, hfz40_9, hfz40_10, hfz40_11, hfz40_12⟩ := bf13 BK121.out; have hnb41 := NB118_117.out; have hnc41 := NB117_118.out; obtain ⟨hcz42_0, hcz42_1⟩ := bc2 BK118.out; obtain ⟨hfz42_0, hfz42_1⟩ := bf2 BK118.out) | ((with_reducible refine gate_callee (f := 54) rfl ?_); refine goesL_ (some 24) rfl rfl Try.func54 (by kernel_rfl) rfl #[.agg #[.slice A1_0 l1_0.length c1_0, .slice A1_1 l1_1.length c1_1], .string ((rd_T64 l0_1 x16_1).f0.f0)] rfl (by (try simp only [List.map_toArray, List.map_cons, List.map_nil]); first | done | rfl | (simp only [List.length_drop, List.length_take]; rfl)) ?_; (with_reducible refine (stackdef_Find.calls _ _ l1_0 _ _ l1_1 ((rd_T64 l0_1 x16_1).f0.f0) t122 _ ?side1 ?side2 ?side3 ?side4 A14.out).mono ?_); (case side1 => exact Kd.C_below HR1_0.out (bs HB.out)); (case side2 => exact HC1_0.out); (case side3 => exact Kd.C_below HR1_1.out (bs HB.out)); (case side4 => exact HC1_1.out); rintro e w43 ⟨rfl, hb⟩; refine ⟨_, rfl, ?_⟩; have n0_ := Aside0.mk (blk_below (g := gb117) (o := .cells #[.string a0_0, .slice (some ad120) l0_1.length c0_1] 24 (0, 0)) (by (iterate 13 (with_reducible repeat (first | refine blk_drewN ?_ _ | refine blk_drew ?_ | refine blk_alloc ?_ _)); refine blk_far ?_ NB117_121.out _); exact bg BK117.out) hb); have n1_ := Aside0.mk (blk_below (g := gb118) (o := .cells #[.slice A1_0 l1_0.length c1_0, .slice A1_1 l1_1.length c1_1] 28 (0, 0)) (by (iterate 13 (with_reducible repeat (first | refine blk_drewN ?_ _ | refine blk_drew ?_ | refine blk_alloc ?_ _)); refine blk_far ?_ NB118_121.out _); exact bg BK118.out) hb); have n2_ := Aside0.mk (blk_below (g := gb121) (o := .cells #[.string ((rd_T64 l0_1 x16_1).f0.f0), .int .i64 ((rd_T64 l0_1 x16_1).f0.f1), .int .i64 ((rd_T64 l0_1 x16_1).f0.f2), .int .i64 ((rd_T64 l0_1 x16_1).f0.f3), .int .i64 ((rd_T64 l0_1 x16_1).f0.f4), .int .i64 ((rd_T64 l0_1 x16_1).f1), .int .i64 ((rd_T64 l0_1 x16_1).f2), .bool true, .string ((rd_T64 l0_1 x16_1).f4.f0), .int .i64 ((rd_T64 l0_1 x16_1).f4.f1), .int .i64 ((rd_T64 l0_1 x16_1).f4.f2), .int .i64 ((rd_T64 l0_1 x16_1).f4.f3), .int .i64 ((rd_T64 l0_1 x16_1).f4.f4)] 64 (0, 0)) (by exact pt13 (bg BK121.out)) hb); have n3_ := Aside0.mk (below_step (bs HB.out) hb); clear BK117; clear BK118; clear BK121; clear HB; have BK117 := n0_; have BK118 := n1_; have BK121 := n2_; have HB := n3_; clear n0_ n1_ n2_ n3_; (try clear hb); (try clear hb2); (try clear hk); (try clear hi); obtain ⟨hcz44_0, hcz44_1, hcz44_2, hcz44_3, hcz44_4, hcz44_5, hcz44_6, hcz44_7, hcz44_8, hcz44_9, hcz44_10, hcz44_11, hcz44_12⟩ := bc13 BK121.out; obtain ⟨hfz44_0, hfz44_1, hfz44_2, hfz44_3, hfz44_4, hfz44_5, hfz44_6, hfz44_7, hfz44_8, hfz44_9, hfz44_10, hfz44_11, hfz44_12⟩ := bf13 BK121.out; obtain ⟨hcz45_0, hcz45_1⟩ := bc2 BK118.out; obtain ⟨hfz45_0, hfz45_1⟩ := bf2 BK118.out) | (go_at_call 54; (with_reducible refine (stackdef_Find.calls _ _ l1_0 _ _ l1_1 ((rd_T64 l0_1 x16_1).f4.f0) t123 _ ?side1 ?side2 ?side3 ?side4 A25.out).mono ?_); (case side1 => repeat (first | exact (Kd.C_below HR1_0.out HB.out) | (with_reducible refine Kd.C_alloc ?_ _) | (with_reducible refine Kd.C_drewN ?_ _) | (with_reducible refine Kd.C_drew ?_))); (case side2 => exact HC1_0.out); (case side3 => repeat (first | exact (Kd.C_below HR1_1.out HB.out) | (with_reducible refine Kd.C_alloc ?_ _) | (with_reducible refine Kd.C_drewN ?_ _) | (with_reducible refine Kd.C_drew ?_))); (case side4 => exact HC1_1.out); rintro e w46 ⟨rfl, hb⟩; have n0_ := Aside0.mk (blk_below (bg BK117.out) hb); have n1_ := Aside0.mk (blk_below (bg BK118.out) hb); have n2_ := Aside0.mk (blk_below (bg BK121.out) hb); have n3_ := Aside0.mk (below_step (bs HB.out) hb); clear BK117; clear BK118; clear BK121; clear HB; have BK117 := n0_; have BK118 := n1_; have BK121 := n2_; have HB := n3_; clear n0_ n1_ n2_ n3_; (try clear hb); (try clear hb2); (try clear hk); (try clear hi)))
          go_roundg k1
          case measure => have := HK1.out; omega
          case rel => (try rw [Nbq23.out] at H'); (try rw [Nbq23.out] at BK117); (try rw [Nbq23.out] at BK118); (try rw [Nbq23.out] at BK121); exact ⟨(wrap64 (x16_1 + 1)), (by first | rfl | (simp; done) | (simp [*]; done)), H', ⟨by have := HK1.out; omega⟩, ⟨bg BK117.out⟩, ⟨bg BK118.out⟩, ⟨bs HB.out⟩⟩
        ·
         replace c24 := Bool.eq_false_iff.mpr c24
         subst c24
         have H1 : (trig_Check.l0 k1 l0_1 (l0_1.length : Int) (wrap64 (x16_1 + 1)) l1_0 l1_1) = some r := by rw [if_neg (show ¬ (false = true) by decide)] at H; exact H
         clear H
         have H := H1
         clear H1
         have H' := Aside0.mk H
         clear H
         have p120 : 0 ≤ (x16_1 : Int) := of_decide_eq_true (by first | (with_reducible assumption) | assumption)
         have q120 : x16_1 < (l0_1.length : Int) := of_decide_eq_true (by first | (with_reducible assumption) | assumption)
         obtain ⟨ad120, e120, hx120_0, hx120_1, hx120_2, hx120_3, hx120_4, hx120_5, hx120_6, hx120_7, hx120_8, hx120_9, hx120_10, hx120_11, hx120_12⟩ := at_T64 HR0_1.out x16_1 p120 q120
         (try rw [← Nbq23.out] at hx120_7)
         cases e120
         replace hx120_0 := pw_cell_below HB.out hx120_0
         replace hx120_1 := pw_cell_below HB.out hx120_1
         replace hx120_2 := pw_cell_below HB.out hx120_2
         replace hx120_3 := pw_cell_below HB.out hx120_3
         replace hx120_4 := pw_cell_below HB.out hx120_4
         replace hx120_5 := pw_cell_below HB.out hx120_5
         replace hx120_6 := pw_cell_below HB.out hx120_6
         replace hx120_7 := pw_cell_below HB.out hx120_7
         replace hx120_8 := pw_cell_below HB.out hx120_8
         replace hx120_9 := pw_cell_below HB.out hx120_9
         replace hx120_10 := pw_cell_below HB.out hx120_10
         replace hx120_11 := pw_cell_below HB.out hx120_11
         replace hx120_12 := pw_cell_below HB.out hx120_12
         replace p120 := eq_true p120
         replace q120 := eq_true q120
         go_wp2_with (first | ((with_reducible refine gate_dst (N := 7) rfl ?_); refine box_event ?hg (N := 7) ?hd (cs := #[.string (⟨#[]⟩ : ByteArray), .int .i64 0, .int .i64 0, .int .i64 0, .int .i64 0, .int .i64 0, .int .i64 0, .bool false, .string (⟨#[]⟩ : ByteArray), .int .i64 0, .int .i64 0, .int .i64 0, .int .i64 0]) (t := 64) ?hr ?_; (case hd => rfl); (case hg => rfl); (case hr => first | (go_simp; done) | (go_simp; rfl)); intro gb121 hg w47 hbox hb; have n0_ := Aside0.mk (blk_below (bg BK117.out) hb); have n1_ := Aside0.mk (blk_below (bg BK118.out) hb); have n2_ := Aside0.mk (below_step (bs HB.out) hb); have n3_ := Aside0.mk (hbox); have n4_ := Aside0.mk ((by rw [hg]; exact (below_size (bs HB.out)) : w.heap.size ≤ gb121)); have n5_ := n4_; have n6_ := Aside0.mk ((by rw [hg]; exact Nat.ne_of_lt (blk_lt (bg BK117.out)) : gb117 ≠ gb121)); have n7_ := Aside0.mk ((by rw [hg]; exact Nat.ne_of_gt (blk_lt (bg BK117.out)) : gb121 ≠ gb117)); have n8_ := Aside0.mk ((by rw [hg]; exact Nat.ne_of_lt (blk_lt (bg BK118.out)) : gb118 ≠ gb121)); have n9_ := Aside0.mk ((by rw [hg]; exact Nat.ne_of_gt (blk_lt (bg BK118.out)) : gb121 ≠ gb118)); clear BK117; clear BK118; clear HB; have BK117 := n0_; have BK118 := n1_; have HB := n2_; have BK121 := n3_; have GW121 := n4_; have GE121 := n5_; have NB117_121 := n6_; have NB121_117 := n7_; have NB118_121 := n8_; have NB121_118 := n9_; clear n0_ n1_ n2_ n3_ n4_ n5_ n6_ n7_ n8_ n9_; clear hb hbox hg; have hnb48 := NB121_117.out; have hnc48 := NB117_121.out; have hnb49 := NB121_118.out; have hnc49 := NB118_121.out; obtain ⟨hcz50_0, hcz50_1, hcz50_2, hcz50_3, hcz50_4, hcz50_5, hcz50_6, hcz50_7, hcz50_8, hcz50_9, hcz50_10, hcz50_11, hcz50_12⟩ := bc13 BK121.out; obtain ⟨hfz50_0, hfz50_1, hfz50_2, hfz50_3, hfz50_4, hfz50_5, hfz50_6, hfz50_7, hfz50_8, hfz50_9, hfz50_10, hfz50_11, hfz50_12⟩ := bf13 BK121.out; have hnb51 := NB118_117.out; have hnc51 := NB117_118.out; obtain ⟨hcz52_0, hcz52_1⟩ := bc2 BK118.out; obtain ⟨hfz52_0, hfz52_1⟩ := bf2 BK118.out) | ((with_reducible refine gate_callee (f := 54) rfl ?_); refine goesL_ (some 24) rfl rfl Try.func54 (by kernel_rfl) rfl #[.agg #[.slice A1_0 l1_0.length c1_0, .slice A1_1 l1_1.length c1_1], .string ((rd_T64 l0_1 x16_1).f0.f0)] rfl (by (try simp only [List.map_toArray, List.map_cons, List.map_nil]); first | done | rfl | (simp only [List.length_drop, List.length_take]; rfl)) ?_; (with_reducible refine (stackdef_Find.calls _ _ l1_0 _ _ l1_1 ((rd_T64 l0_1 x16_1).f0.f0) t122 _ ?side1 ?side2 ?side3 ?side4 A14.out).mono ?_); (case side1 => exact Kd.C_below HR1_0.out (bs HB.out)); (case side2 => exact HC1_0.out); (case side3 => exact Kd.C_below HR1_1.out (bs HB.out)); (case side4 => exact HC1_1.out); rintro e w53 ⟨rfl, hb⟩; refine ⟨_, rfl, ?_⟩; have n0_ := Aside0.mk (blk_below (g := gb117) (o := .cells #[.string a0_0, .slice (some ad120) l0_1.length c0_1] 24 (0, 0)) (by (iterate 13 (with_reducible repeat (first | refine blk_drewN ?_ _ | refine blk_drew ?_ | refine blk_alloc ?_ _)); refine blk_far ?_ NB117_121.out _); exact bg BK117.out) hb); have n1_ := Aside0.mk (blk_below (g := gb118) (o := .cells #[.slice A1_0 l1_0.length c1_0, .slice A1_1 l1_1.length c1_1] 28 (0, 0)) (by (iterate 13 (with_reducible repeat (first | refine blk_drewN ?_ _ | refine blk_drew ?_ | refine blk_alloc ?_ _)); refine blk_far ?_ NB118_121.out _); exact bg BK118.out) hb); have n2_ := Aside0.mk (blk_below (g := gb121) (o := .cells #[.string ((rd_T64 l0_1 x16_1).f0.f0), .int .i64 ((rd_T64 l0_1 x16_1).f0.f1), .int .i64 ((rd_T64 l0_1 x16_1).f0.f2), .int .i64 ((rd_T64 l0_1 x16_1).f0.f3), .int .i64 ((rd_T64 l0_1 x16_1).f0.f4), .int .i64 ((rd_T64 l0_1 x16_1).f1), .int .i64 ((rd_T64 l0_1 x16_1).f2), .bool false, .string ((rd_T64 l0_1 x16_1).f4.f0), .int .i64 ((rd_T64 l0_1 x16_1).f4.f1), .int .i64 ((rd_T64 l0_1 x16_1).f4.f2), .int .i64 ((rd_T64 l0_1 x16_1).f4.f3), .int .i64 ((rd_T64 l0_1 x16_1).f4.f4)] 64 (0, 0)) (by exact pt13 (bg BK121.out)) hb); have n3_ := Aside0.mk (below_step (bs HB.out) hb); clear BK117; clear BK118; clear BK121; clear HB; have BK117 := n0_; have BK118 := n1_; have BK121 := n2_; have HB := n3_; clear n0_ n1_ n2_ n3_; (try clear hb); (try clear hb2); (try clear hk); (try clear hi); obtain ⟨hcz54_0, hcz54_1, hcz54_2, hcz54_3, hcz54_4, hcz54_5, hcz54_6, hcz54_7, hcz54_8, hcz54_9, hcz54_10, hcz54_11, hcz54_12⟩ := bc13 BK121.out; obtain ⟨hfz54_0, hfz54_1, hfz54_2, hfz54_3, hfz54_4, hfz54_5, hfz54_6, hfz54_7, hfz54_8, hfz54_9, hfz54_10, hfz54_11, hfz54_12⟩ := bf13 BK121.out))
         go_roundg k1
         case measure => have := HK1.out; omega
         case rel => (try rw [Nbq23.out] at H'); exact ⟨(wrap64 (x16_1 + 1)), (by first | rfl | (simp; done) | (simp [*]; done)), H', ⟨by have := HK1.out; omega⟩, ⟨bg BK117.out⟩, ⟨bg BK118.out⟩, ⟨bs HB.out⟩⟩
      ·
       rw [if_neg c13] at H
       exact absurd H (by simp)
     ·
      rw [if_neg c12] at H
      exact absurd H (by simp)
    ·
     rw [if_neg c11] at H
     have c11b0 : decide (x16_1 < (l0_1.length : Int)) = false := decide_eq_false c11
     clear c11
     obtain rfl := Option.some.inj H
     go_wp2
     go_ret
     exact ⟨by first | rfl | (simp [errW_none, errW_some] <;> rfl) | (simp [*, errW_none, errW_some] <;> rfl), bs HB.out⟩
 ·
  rw [if_neg c4] at H
  have c4b0 : (t119 == 0) = false := beq_eq_false_iff_ne.mpr c4
  have c4b1 : (t119 != 0) = true := bne_iff_ne.mpr c4
  obtain rfl := Option.some.inj H
  go_enter Try.func25, Try.ntmps25
  go_wp2_with (first | ((with_reducible refine gate_dst (N := 2) rfl ?_); refine box_event ?hg (N := 2) ?hd (cs := #[.string a0_0, .slice A0_1 l0_1.length c0_1]) (t := 24) ?hr ?_; (case hd => rfl); (case hg => rfl); (case hr => first | (go_simp; done) | (go_simp; rfl)); intro gb117 hg w55 hbox hb; have n0_ := Aside0.mk (below_step (bs HB.out) hb); have n1_ := Aside0.mk (hbox); have n2_ := Aside0.mk ((by rw [hg]; exact (below_size (bs HB.out)) : w.heap.size ≤ gb117)); have n3_ := n2_; clear HB; have HB := n0_; have BK117 := n1_; have GW117 := n2_; have GE117 := n3_; clear n0_ n1_ n2_ n3_; clear hb hbox hg) | ((with_reducible refine gate_dst (N := 3) rfl ?_); refine box_event ?hg (N := 3) ?hd (cs := #[.slice A1_0 l1_0.length c1_0, .slice A1_1 l1_1.length c1_1]) (t := 28) ?hr ?_; (case hd => rfl); (case hg => rfl); (case hr => first | (go_simp; done) | (go_simp; rfl)); intro gb118 hg w56 hbox hb; have n0_ := Aside0.mk (blk_below (bg BK117.out) hb); have n1_ := Aside0.mk (below_step (bs HB.out) hb); have n2_ := Aside0.mk (hbox); have n3_ := Aside0.mk ((by rw [hg]; exact (below_size (bs HB.out)) : w.heap.size ≤ gb118)); have n4_ := n3_; have n5_ := Aside0.mk ((by rw [hg]; exact Nat.ne_of_lt (blk_lt (bg BK117.out)) : gb117 ≠ gb118)); have n6_ := Aside0.mk ((by rw [hg]; exact Nat.ne_of_gt (blk_lt (bg BK117.out)) : gb118 ≠ gb117)); clear BK117; clear HB; have BK117 := n0_; have HB := n1_; have BK118 := n2_; have GW118 := n3_; have GE118 := n4_; have NB117_118 := n5_; have NB118_117 := n6_; clear n0_ n1_ n2_ n3_ n4_ n5_ n6_; clear hb hbox hg; have hnb57 := NB117_118.out; have hnc57 := NB118_117.out; obtain ⟨hcz58_0, hcz58_1⟩ := bc2 BK117.out; obtain ⟨hfz58_0, hfz58_1⟩ := bf2 BK117.out) | ((with_reducible refine gate_callee (f := 53) rfl ?_); refine goesL_ (some 9) rfl rfl Try.func53 (by kernel_rfl) rfl #[.agg #[.string a0_0, .slice A0_1 l0_1.length c0_1]] rfl (by (try simp only [List.map_toArray, List.map_cons, List.map_nil]); first | done | rfl | (simp only [List.length_drop, List.length_take]; rfl)) ?_; (with_reducible refine (trig_wrong.calls k a0_0 _ _ l0_1 t119 _ ?side1 ?side2 A3.out).mono ?_); (case side1 => repeat (first | exact (Kd.C_below HR0_1.out HB.out) | (with_reducible refine Kd.C_alloc ?_ _) | (with_reducible refine Kd.C_drewN ?_ _) | (with_reducible refine Kd.C_drew ?_))); (case side2 => exact HC0_1.out); rintro e w59 ⟨rfl, hb⟩; refine ⟨_, rfl, ?_⟩; have n0_ := Aside0.mk (blk_below (bg BK117.out) hb); have n1_ := Aside0.mk (blk_below (bg BK118.out) hb); have n2_ := Aside0.mk (below_step (bs HB.out) hb); clear BK117; clear BK118; clear HB; have BK117 := n0_; have BK118 := n1_; have HB := n2_; clear n0_ n1_ n2_; (try clear hb); (try clear hb2); (try clear hk); (try clear hi)))
  go_ret
  exact ⟨by first | rfl | (simp [errW_none, errW_some] <;> rfl) | (simp [*, errW_none, errW_some] <;> rfl), bs HB.out⟩

end Go.Proofs.Ytgdjiphljadlcaa.H
