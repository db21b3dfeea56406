-- Printed by wip/hprint.py (this project's own driver of the kit's print) out of the translation; Lean checks it.
import Derived.Test.YtgdjiphljadlcaaH0
import Derived.Test.YtgdjiphljadlcaaH16
import Derived.Test.YtgdjiphljadlcaaH17
namespace Go.Proofs.Ytgdjiphljadlcaa.H
open Go.RowKit Go.Proofs.YtgdjiphljadlcaaW.PrintWords Go.Proofs.YtgdjiphljadlcaaW.PrintLast Go.Proofs.YtgdjiphljadlcaaW.PrintMore
attribute [local go_sem] max2_int min2_int max_two min_two max_three min_three max_four min_four   -- for this text's walks alone
set_option linter.unusedVariables false
set_option linter.unusedSimpArgs false

/-! ### signalbenchref43_Check: function 40 -/
def signalbenchref43_Check.l0 : Nat → Int → ByteArray → List (S64) → List (S139) → List (S100) → Option (Int)
 | 0, _, _, _, _, _ => none
 | k + 1, x6, x168000, x168001, x169000, x169001 => if x6 < (x168001.length : Int) then (if 0 ≤ x6 then ((signalbenchref43_find.f k x169000 x169001 ((rd_T64 x168001 x6).f0.f0)).bind fun t172 => (if t172 < 0 then (some 8) else (if (rd_T64 x168001 x6).f3 = true then ((signalbenchref43_find.f k x169000 x169001 ((rd_T64 x168001 x6).f4.f0)).bind fun t173 => (if t173 < 0 then (some 8) else (signalbenchref43_Check.l0 k (wrap64 (x6 + 1)) x168000 x168001 x169000 x169001))) else (signalbenchref43_Check.l0 k (wrap64 (x6 + 1)) x168000 x168001 x169000 x169001)))) else (none)) else (some 0)
def signalbenchref43_Check.f (k : Nat) (a0_0 : ByteArray) (l0_1 : List (S64)) (l1_0 : List (S139)) (l1_1 : List (S100)) : Option (Int) := (signalbenchref43_wrong.f k a0_0 l0_1).bind fun t169 => (if t169 = 0 then (signalbenchref43_Check.l0 k 0 a0_0 l0_1 l1_0 l1_1) else (some t169))
set_option maxHeartbeats 8000000 in
set_option maxRecDepth 100000 in
theorem signalbenchref43_Check.calls (k : Nat) (a0_0 : ByteArray) (A0_1 : Option Addr) (c0_1 : Nat) (l0_1 : List (S64)) (A1_0 : Option Addr) (c1_0 : Nat) (l1_0 : List (S139)) (A1_1 : Option Addr) (c1_1 : Nat) (l1_1 : List (S100)) (r : Int) (w : World) (hr0_1 : Kd.C k64 w A0_1 l0_1.length l0_1) (hc0_1 : l0_1.length ≤ c0_1) (hr1_0 : Kd.C k139 w A1_0 l1_0.length l1_0) (hc1_0 : l1_0.length ≤ c1_0) (hr1_1 : Kd.C k100 w A1_1 l1_1.length l1_1) (hc1_1 : l1_1.length ≤ c1_1) (h : signalbenchref43_Check.f k a0_0 l0_1 l1_0 l1_1 = some r) :
  Calls Try.prog 40 #[.agg #[.string a0_0, .slice A0_1 l0_1.length c0_1], .agg #[.slice A1_0 l1_0.length c1_0, .slice A1_1 l1_1.length c1_1]] w fun e w' => e = .returned (.int .i64 r) ∧ Below w.heap.size w w' := by
 have hu24 := Try.underlying24
 have hu28 := Try.underlying28
 have hu64 := Try.underlying64
 have HR0_1 := Aside0.mk hr0_1
 have HC0_1 := Aside0.mk hc0_1
 clear hr0_1 hc0_1
 have HR1_0 := Aside0.mk hr1_0
 have HC1_0 := Aside0.mk hc1_0
 clear hr1_0 hc1_0
 have HR1_1 := Aside0.mk hr1_1
 have HC1_1 := Aside0.mk hc1_1
 clear hr1_1 hc1_1
 have HB := Aside0.mk (Below.refl w.heap.size w)
 have H : ((signalbenchref43_wrong.f k a0_0 l0_1).bind fun t169 => (if t169 = 0 then (signalbenchref43_Check.l0 k 0 a0_0 l0_1 l1_0 l1_1) else (some t169))) = some r := h
 clear h
 replace H := Option.bind_eq_some_iff.mp H
 obtain ⟨t169, A30, H⟩ := H
 replace H : (if t169 = 0 then (signalbenchref43_Check.l0 k 0 a0_0 l0_1 l1_0 l1_1) else (some t169)) = some r := H
 have A3 := Aside0.mk A30
 clear A30
 by_cases c4 : t169 = 0
 ·
  rw [if_pos c4] at H
  have c4b0 : (t169 == 0) = true := beq_iff_eq.mpr c4
  have c4b1 : (t169 != 0) = false := bne_eq_false_iff_eq.mpr c4
  clear c4
  have H' := Aside0.mk H
  clear H
  go_enter Try.func40, Try.ntmps40
  go_wp2_with (first | ((with_reducible refine gate_dst (N := 2) rfl ?_); refine box_event ?hg (N := 2) ?hd (cs := #[.string a0_0, .slice A0_1 l0_1.length c0_1]) (t := 24) ?hr ?_; (case hd => rfl); (case hg => rfl); (case hr => first | (go_simp; done) | (go_simp; rfl)); intro gb167 hg w5 hbox hb; have n0_ := Aside0.mk (below_step (bs HB.out) hb); have n1_ := Aside0.mk (hbox); have n2_ := Aside0.mk ((by rw [hg]; exact (below_size (bs HB.out)) : w.heap.size ≤ gb167)); have n3_ := n2_; clear HB; have HB := n0_; have BK167 := n1_; have GW167 := n2_; have GE167 := n3_; clear n0_ n1_ n2_ n3_; clear hb hbox hg) | ((with_reducible refine gate_dst (N := 3) rfl ?_); refine box_event ?hg (N := 3) ?hd (cs := #[.slice A1_0 l1_0.length c1_0, .slice A1_1 l1_1.length c1_1]) (t := 28) ?hr ?_; (case hd => rfl); (case hg => rfl); (case hr => first | (go_simp; done) | (go_simp; rfl)); intro gb168 hg w6 hbox hb; have n0_ := Aside0.mk (blk_below (bg BK167.out) hb); have n1_ := Aside0.mk (below_step (bs HB.out) hb); have n2_ := Aside0.mk (hbox); have n3_ := Aside0.mk ((by rw [hg]; exact (below_size (bs HB.out)) : w.heap.size ≤ gb168)); have n4_ := n3_; have n5_ := Aside0.mk ((by rw [hg]; exact Nat.ne_of_lt (blk_lt (bg BK167.out)) : gb167 ≠ gb168)); have n6_ := Aside0.mk ((by rw [hg]; exact Nat.ne_of_gt (blk_lt (bg BK167.out)) : gb168 ≠ gb167)); clear BK167; clear HB; have BK167 := n0_; have HB := n1_; have BK168 := n2_; have GW168 := n3_; have GE168 := n4_; have NB167_168 := n5_; have NB168_167 := n6_; clear n0_ n1_ n2_ n3_ n4_ n5_ n6_; clear hb hbox hg; have hnb7 := NB167_168.out; have hnc7 := NB168_167.out; obtain ⟨hcz8_0, hcz8_1⟩ := bc2 BK167.out; obtain ⟨hfz8_0, hfz8_1⟩ := bf2 BK167.out) | ((with_reducible refine gate_callee (f := 70) rfl ?_); refine goesL_ (some 9) rfl rfl Try.func70 (by kernel_rfl) rfl #[.agg #[.string a0_0, .slice A0_1 l0_1.length c0_1]] rfl (by (try simp only [List.map_toArray, List.map_cons, List.map_nil]); first | done | rfl | (simp only [List.length_drop, List.length_take]; rfl)) ?_; (with_reducible refine (signalbenchref43_wrong.calls k a0_0 _ _ l0_1 t169 _ ?side1 ?side2 A3.out).mono ?_); (case side1 => repeat (first | exact (Kd.C_below HR0_1.out HB.out) | (with_reducible refine Kd.C_alloc ?_ _) | (with_reducible refine Kd.C_drewN ?_ _) | (with_reducible refine Kd.C_drew ?_))); (case side2 => exact HC0_1.out); rintro e w9 ⟨rfl, hb⟩; refine ⟨_, rfl, ?_⟩; have n0_ := Aside0.mk (blk_below (bg BK167.out) hb); have n1_ := Aside0.mk (blk_below (bg BK168.out) hb); have n2_ := Aside0.mk (below_step (bs HB.out) hb); clear BK167; clear BK168; clear HB; have BK167 := n0_; have BK168 := n1_; have HB := n2_; clear n0_ n1_ n2_; (try clear hb); (try clear hb2); (try clear hk); (try clear hi)))
  go_loopg [6] k (fun kq v6 w' => ∃ (x6_1 : Int), v6 = .int .i64 x6_1 ∧ Aside0 (signalbenchref43_Check.l0 kq x6_1 a0_0 l0_1 l1_0 l1_1 = some r) ∧ Aside0 (kq ≤ k) ∧ Aside0 (w'.heap[gb167]? = some (.cells #[.string a0_0, (.slice A0_1 l0_1.length c0_1)] 24 (0, 0))) ∧ Aside0 (w'.heap[gb168]? = some (.cells #[(.slice A1_0 l1_0.length c1_0), (.slice A1_1 l1_1.length c1_1)] 28 (0, 0))) ∧ Aside0 (Below w.heap.size w w'))
  case atStart => exact ⟨(0), (by first | rfl | (simp; done) | (simp [*]; done)), H', ⟨Nat.le_refl _⟩, ⟨bg BK167.out⟩, ⟨bg BK168.out⟩, ⟨bs HB.out⟩⟩
  case round =>
   clear H'
   try clear c1
   try clear p2
   try clear c4
   try clear c4b0
   try clear c4b1
   try clear c7
   try clear hcz8_0 hcz8_1
   try clear hfz8_0 hfz8_1
   obtain ⟨x6_1, rfl, HA, HK1, BK167, BK168, HB⟩ := hrel
   cases gk with
   | zero => exact absurd HA.out (by simp [signalbenchref43_Check.l0])
   | succ k1 =>
    have H := HA.out
    clear HA
    simp only [signalbenchref43_Check.l0] at H
    by_cases c10 : x6_1 < (l0_1.length : Int)
    ·
     rw [if_pos c10] at H
     have c10b0 : decide (x6_1 < (l0_1.length : Int)) = true := decide_eq_true c10
     clear c10
     by_cases c11 : 0 ≤ x6_1
     ·
      rw [if_pos c11] at H
      have c11b0 : decide (0 ≤ x6_1) = true := decide_eq_true c11
      clear c11
      replace H := Option.bind_eq_some_iff.mp H
      obtain ⟨t172, A120, H⟩ := H
      replace H : (if t172 < 0 then (some 8) else (if (rd_T64 l0_1 x6_1).f3 = true then ((signalbenchref43_find.f k1 l1_0 l1_1 ((rd_T64 l0_1 x6_1).f4.f0)).bind fun t173 => (if t173 < 0 then (some 8) else (signalbenchref43_Check.l0 k1 (wrap64 (x6_1 + 1)) a0_0 l0_1 l1_0 l1_1))) else (signalbenchref43_Check.l0 k1 (wrap64 (x6_1 + 1)) a0_0 l0_1 l1_0 l1_1))) = some r := H
      have A12 := Aside0.mk A120
      clear A120
      by_cases c13 : t172 < 0
      ·
       rw [if_pos c13] at H
       have c13b0 : decide (t172 < 0) = true := decide_eq_true c13
       clear c13
       obtain rfl := Option.some.inj H
       have hnb14 := NB167_168.out
       have hnc14 := NB168_167.out
       obtain ⟨hcz15_0, hcz15_1⟩ := bc2 BK167.out
       obtain ⟨hfz15_0, hfz15_1⟩ := bf2 BK167.out
       have p170 : 0 ≤ (x6_1 : Int) := of_decide_eq_true (by first | (with_reducible assumption) | assumption)
       have q170 : x6_1 < (l0_1.length : Int) := of_decide_eq_true (by first | (with_reducible assumption) | assumption)
       obtain ⟨ad170, e170, hx170_0, hx170_1, hx170_2, hx170_3, hx170_4, hx170_5, hx170_6, hx170_7, hx170_8, hx170_9, hx170_10, hx170_11, hx170_12⟩ := at_T64 HR0_1.out x6_1 p170 q170
       cases e170
       replace hx170_0 := pw_cell_below HB.out hx170_0
       replace hx170_1 := pw_cell_below HB.out hx170_1
       replace hx170_2 := pw_cell_below HB.out hx170_2
       replace hx170_3 := pw_cell_below HB.out hx170_3
       replace hx170_4 := pw_cell_below HB.out hx170_4
       replace hx170_5 := pw_cell_below HB.out hx170_5
       replace hx170_6 := pw_cell_below HB.out hx170_6
       replace hx170_7 := pw_cell_below HB.out hx170_7
       replace hx170_8 := pw_cell_below HB.out hx170_8
       replace hx170_9 := pw_cell_below HB.out hx170_9
       replace hx170_10 := pw_cell_below HB.out hx170_10
       replace hx170_11 := pw_cell_below HB.out hx170_11
       replace hx170_12 := pw_cell_below HB.out hx170_12
       replace p170 := eq_true p170
       replace q170 := eq_true q170
       go_wp2_with (first | ((with_reducible refine gate_dst (N := 7) rfl ?_); refine box_event ?hg (N := 7) ?hd (cs := #[.string (⟨#[]⟩ : ByteArray), .int .i64 0, .int .i64 0, .int .i64 0, .int .i64 0, .int .i64 0, .int .i64 0, .bool false, .string (⟨#[]⟩ : ByteArray), .int .i64 0, .int .i64 0, .int .i64 0, .int .i64 0]) (t := 64) ?hr ?_; (case hd => rfl); (case hg => rfl); (case hr => first | (go_simp; done) | (go_simp; rfl)); intro gb171 hg w16 hbox hb; have n0_ := Aside0.mk (blk_below (bg BK167.out) hb); have n1_ := Aside0.mk (blk_below (bg BK168.out) hb); have n2_ := Aside0.mk (below_step (bs HB.out) hb); have n3_ := Aside0.mk (hbox); have n4_ := Aside0.mk ((by rw [hg]; exact (below_size (bs HB.out)) : w.heap.size ≤ gb171)); have n5_ := n4_; have n6_ := Aside0.mk ((by rw [hg]; exact Nat.ne_of_lt (blk_lt (bg BK167.out)) : gb167 ≠ gb171)); have n7_ := Aside0.mk ((by rw [hg]; exact Nat.ne_of_gt (blk_lt (bg BK167.out)) : gb171 ≠ gb167)); have n8_ := Aside0.mk ((by rw [hg]; exact Nat.ne_of_lt (blk_lt (bg BK168.out)) : gb168 ≠ gb171)); have n9_ := Aside0.mk ((by rw [hg]; exact Nat.ne_of_gt (blk_lt (bg BK168.out)) : gb171 ≠ gb168)); clear BK167; clear BK168; clear HB; have BK167 := n0_; have BK168 := n1_; have HB := n2_; have BK171 := n3_; have GW171 := n4_; have GE171 := n5_; have NB167_171 := n6_; have NB171_167 := n7_; have NB168_171 := n8_; have NB171_168 := n9_; clear n0_ n1_ n2_ n3_ n4_ n5_ n6_ n7_ n8_ n9_; clear hb hbox hg; have hnb17 := NB171_167.out; have hnc17 := NB167_171.out; have hnb18 := NB171_168.out; have hnc18 := NB168_171.out; obtain ⟨hcz19_0, hcz19_1, hcz19_2, hcz19_3, hcz19_4, hcz19_5, hcz19_6, hcz19_7, hcz19_8, hcz19_9, hcz19_10, hcz19_11, hcz19_12⟩ := bc13 BK171.out; obtain ⟨hfz19_0, hfz19_1, hfz19_2, hfz19_3, hfz19_4, hfz19_5, hfz19_6, hfz19_7, hfz19_8, hfz19_9, hfz19_10, hfz19_11, hfz19_12⟩ := bf13 BK171.out; obtain ⟨hcz20_0, hcz20_1⟩ := bc2 BK168.out; obtain ⟨hfz20_0, hfz20_1⟩ := bf2 BK168.out) | ((with_reducible refine gate_callee (f := 71) rfl ?_); refine goesL_ (some 29) rfl rfl Try.func71 (by kernel_rfl) rfl #[.agg #[.slice A1_0 l1_0.length c1_0, .slice A1_1 l1_1.length c1_1], .string ((rd_T64 l0_1 x6_1).f0.f0)] rfl (by (try simp only [List.map_toArray, List.map_cons, List.map_nil]); first | done | rfl | (simp only [List.length_drop, List.length_take]; rfl)) ?_; (with_reducible refine (signalbenchref43_find.calls k1 _ _ l1_0 _ _ l1_1 ((rd_T64 l0_1 x6_1).f0.f0) t172 _ ?side1 ?side2 ?side3 ?side4 A12.out).mono ?_); (case side1 => exact Kd.C_below HR1_0.out (bs HB.out)); (case side2 => exact HC1_0.out); (case side3 => exact Kd.C_below HR1_1.out (bs HB.out)); (case side4 => exact HC1_1.out); rintro e w21 ⟨rfl, hb⟩; refine ⟨_, rfl, ?_⟩; have n0_ := Aside0.mk (blk_below (g := gb167) (o := .cells #[.string a0_0, .slice (some ad170) l0_1.length c0_1] 24 (0, 0)) (by (iterate 13 (with_reducible repeat (first | refine blk_drewN ?_ _ | refine blk_drew ?_ | refine blk_alloc ?_ _)); refine blk_far ?_ NB167_171.out _); exact bg BK167.out) hb); have n1_ := Aside0.mk (blk_below (g := gb168) (o := .cells #[.slice A1_0 l1_0.length c1_0, .slice A1_1 l1_1.length c1_1] 28 (0, 0)) (by (iterate 13 (with_reducible repeat (first | refine blk_drewN ?_ _ | refine blk_drew ?_ | refine blk_alloc ?_ _)); refine blk_far ?_ NB168_171.out _); exact bg BK168.out) hb); have n2_ := Aside0.mk (blk_below (g := gb171) (o := .cells #[.string ((rd_T64 l0_1 x6_1).f0.f0), .int .i64 ((rd_T64 l0_1 x6_1).f0.f1), .int .i64 ((rd_T64 l0_1 x6_1).f0.f2), .int .i64 ((rd_T64 l0_1 x6_1).f0.f3), .int .i64 ((rd_T64 l0_1 x6_1).f0.f4), .int .i64 ((rd_T64 l0_1 x6_1).f1), .int .i64 ((rd_T64 l0_1 x6_1).f2), .bool ((rd_T64 l0_1 x6_1).f3), .string ((rd_T64 l0_1 x6_1).f4.f0), .int .i64 ((rd_T64 l0_1 x6_1).f4.f1), .int .i64 ((rd_T64 l0_1 x6_1).f4.f2), .int .i64 ((rd_T64 l0_1 x6_1).f4.f3), .int .i64 ((rd_T64 l0_1 x6_1).f4.f4)] 64 (0, 0)) (by exact pt13 (bg BK171.out)) hb); have n3_ := Aside0.mk (below_step (bs HB.out) hb); clear BK167; clear BK168; clear BK171; clear HB; have BK167 := n0_; have BK168 := n1_; have BK171 := n2_; have HB := n3_; clear n0_ n1_ n2_ n3_; (try clear hb); (try clear hb2); (try clear hk); (try clear hi)))
       go_ret
       exact ⟨by first | rfl | (simp [errW_none, errW_some] <;> rfl) | (simp [*, errW_none, errW_some] <;> rfl), bs HB.out⟩
      ·
       rw [if_neg c13] at H
       have c13b0 : decide (t172 < 0) = false := decide_eq_false c13
       clear c13
       obtain ⟨bq22, hbq22⟩ : ∃ b_ : Bool, b_ = ((rd_T64 l0_1 x6_1).f3) := ⟨_, rfl⟩
       replace H : (if bq22 = true then ((signalbenchref43_find.f k1 l1_0 l1_1 ((rd_T64 l0_1 x6_1).f4.f0)).bind fun t173 => (if t173 < 0 then (some 8) else (signalbenchref43_Check.l0 k1 (wrap64 (x6_1 + 1)) a0_0 l0_1 l1_0 l1_1))) else (signalbenchref43_Check.l0 k1 (wrap64 (x6_1 + 1)) a0_0 l0_1 l1_0 l1_1)) = some r := by rw [← hbq22] at H; exact H
       have Nbq22 := Aside0.mk hbq22
       clear hbq22
       by_cases c23 : bq22 = true
       ·
        subst c23
        (try rw [← Nbq22.out] at BK167)
        (try rw [← Nbq22.out] at BK168)
        (try rw [← Nbq22.out] at BK171)
        have H1 : ((signalbenchref43_find.f k1 l1_0 l1_1 ((rd_T64 l0_1 x6_1).f4.f0)).bind fun t173 => (if t173 < 0 then (some 8) else (signalbenchref43_Check.l0 k1 (wrap64 (x6_1 + 1)) a0_0 l0_1 l1_0 l1_1))) = some r := by rw [if_pos rfl] at H; exact H
        clear H
        have H := H1
        clear H1
        replace H := Option.bind_eq_some_iff.mp H
        obtain ⟨t173, A240, H⟩ := H
        replace H : (if t173 < 0 then (some 8) else (signalbenchref43_Check.l0 k1 (wrap64 (x6_1 + 1)) a0_0 l0_1 l1_0 l1_1)) = some r := H
        have A24 := Aside0.mk A240
        clear A240
        by_cases c25 : t173 < 0
        ·
         rw [if_pos c25] at H
         have c25b0 : decide (t173 < 0) = true := decide_eq_true c25
         clear c25
         obtain rfl := Option.some.inj H
         have hnb26 := NB167_168.out
         have hnc26 := NB168_167.out
         obtain ⟨hcz27_0, hcz27_1⟩ := bc2 BK167.out
         obtain ⟨hfz27_0, hfz27_1⟩ := bf2 BK167.out
         have p170 : 0 ≤ (x6_1 : Int) := of_decide_eq_true (by first | (with_reducible assumption) | assumption)
         have q170 : x6_1 < (l0_1.length : Int) := of_decide_eq_true (by first | (with_reducible assumption) | assumption)
         obtain ⟨ad170, e170, hx170_0, hx170_1, hx170_2, hx170_3, hx170_4, hx170_5, hx170_6, hx170_7, hx170_8, hx170_9, hx170_10, hx170_11, hx170_12⟩ := at_T64 HR0_1.out x6_1 p170 q170
         (try rw [← Nbq22.out] at hx170_7)
         cases e170
         replace hx170_0 := pw_cell_below HB.out hx170_0
         replace hx170_1 := pw_cell_below HB.out hx170_1
         replace hx170_2 := pw_cell_below HB.out hx170_2
         replace hx170_3 := pw_cell_below HB.out hx170_3
         replace hx170_4 := pw_cell_below HB.out hx170_4
         replace hx170_5 := pw_cell_below HB.out hx170_5
         replace hx170_6 := pw_cell_below HB.out hx170_6
         replace hx170_7 := pw_cell_below HB.out hx170_7
         replace hx170_8 := pw_cell_below HB.out hx170_8
         replace hx170_9 := pw_cell_below HB.out hx170_9
         replace hx170_10 := pw_cell_below HB.out hx170_10
         replace hx170_11 := pw_cell_below HB.out hx170_11
         replace hx170_12 := pw_cell_below HB.out hx170_12
         replace p170 := eq_true p170
         replace q170 := eq_true q170
         go_wp2_with (first | ((with_reducible refine gate_dst (N := 7) rfl ?_); refine box_event ?hg (N := 7) ?hd (cs := #[.string (⟨#[]⟩ : ByteArray), .int .i64 0, .int .i64 0, .int .i64 0, .int .i64 0, .int .i64 0, .int .i64 0, .bool false, .string (⟨#[]⟩ : ByteArray), .int .i64 0, .int .i64 0, .int .i64 0, .int .i64 0]) (t := 64) ?hr ?_; (case hd => rfl); (case hg => rfl); (case hr => first | (go_simp; done) | (go_simp; rfl)); intro gb171 hg w28 hbox hb; have n0_ := Aside0.mk (blk_below (bg BK167.out) hb); have n1_ := Aside0.mk (blk_below (bg BK168.out) hb); have n2_ := Aside0.mk (below_step (bs HB.out) hb); have n3_ := Aside0.mk (hbox); have n4_ := Aside0.mk ((by rw [hg]; exact (below_size (bs HB.out)) : w.heap.size ≤ gb171)); have n5_ := n4_; have n6_ := Aside0.mk ((by rw [hg]; exact Nat.ne_of_lt (blk_lt (bg BK167.out)) : gb167 ≠ gb171)); have n7_ := Aside0.mk ((by rw [hg]; exact Nat.ne_of_gt (blk_lt (bg BK167.out)) : gb171 ≠ gb167)); have n8_ := Aside0.mk ((by rw [hg]; exact Nat.ne_of_lt (blk_lt (bg BK168.out)) : gb168 ≠ gb171)); have n9_ := Aside0.mk ((by rw [hg]; exact Nat.ne_of_gt (blk_lt (bg BK168.out)) : gb171 ≠ gb168)); clear BK167; clear BK168; clear HB; have BK167 := n0_; have BK168 := n1_; have HB := n2_; have BK171 := n3_; have GW171 := n4_; have GE171 := n5_; have NB167_171 := n6_; have NB171_167 := n7_; have NB168_171 := n8_; have NB171_168 := n9_; clear n0_ n1_ n2_ n3_ n4_ n5_ n6_ n7_ n8_ n9_; clear hb hbox hg; have hnb29 := NB171_167.out; have hnc29 := NB167_171.out; have hnb30 := NB171_168.out; have hnc30 := NB168_171.out; obtain ⟨hcz31_0, hcz31_1, hcz31_2, hcz31_3, hcz31_4, hcz31_5, hcz31_6, hcz31_7, hcz31_8, hcz31_9, hcz31_10, hcz31_11, hcz31_12⟩ := bc13 BK171.out; obtain ⟨hfz31_0, hfz31_1, hfz31_2, hfz31_3, hfz31_4, hfz31_5, hfz31_6, hfz31_7, hfz31_8, hfz31_9, hfz31_10, hfz31_11, hfz31_12⟩ := bf13 BK171.out; obtain ⟨hcz32_0, hcz32_1⟩ := bc2 BK168.out; obtain ⟨hfz32_0, hfz32_1⟩ := bf2 BK168.out) | ((with_reducible refine gate_callee (f := 71) rfl ?_); refine goesL_ (some 29) rfl rfl Try.func71 (by kernel_rfl) rfl #[.agg #[.slice A1_0 l1_0.length c1_0, .slice A1_1 l1_1.length c1_1], .string ((rd_T64 l0_1 x6_1).f0.f0)] rfl (by (try simp only [List.map_toArray, List.map_cons, List.map_nil]); first | done | rfl | (simp only [List.length_drop, List.length_take]; rfl)) ?_; (with_reducible refine (signalbenchref43_find.calls k1 _ _ l1_0 _ _ l1_1 ((rd_T64 l0_1 x6_1).f0.f0) t172 _ ?side1 ?side2 ?side3 ?side4 A12.out).mono ?_); (case side1 => exact Kd.C_below HR1_0.out (bs HB.out)); (case side2 => exact HC1_0.out); (case side3 => exact Kd.C_below HR1_1.out (bs HB.out)); (case side4 => exact HC1_1.out); rintro e w33 ⟨rfl, hb⟩; refine ⟨_, rfl, ?_⟩; have n0_ := Aside0.mk (blk_below (g := gb167) (o := .cells #[.string a0_0, .slice (some ad170) l0_1.length c0_1] 24 (0, 0)) (by (iterate 13 (with_reducible repeat (first | refine blk_drewN ?_ _ | refine blk_drew ?_ | refine blk_alloc ?_ _)); refine blk_far ?_ NB167_171.out _); exact bg BK167.out) hb); have n1_ := Aside0.mk (blk_below (g := gb168) (o := .cells #[.slice A1_0 l1_0.length c1_0, .slice A1_1 l1_1.length c1_1] 28 (0, 0)) (by (iterate 13 (with_reducible repeat (first | refine blk_drewN ?_ _ | refine blk_drew ?_ | refine blk_alloc ?_ _)); refine blk_far ?_ NB168_171.out _); exact bg BK168.out) hb); have n2_ := Aside0.mk (blk_below (g := gb171) (o := .cells #[.string ((rd_T64 l0_1 x6_1).f0.f0), .int .i64 ((rd_T64 l0_1 x6_1).f0.f1), .int .i64 ((rd_T64 l0_1 x6_1).f0.f2), .int .i64 ((rd_T64 l0_1 x6_1).f0.f3), .int .i64 ((rd_T64 l0_1 x6_1).f0.f4), .int .i64 ((rd_T64 l0_1 x6_1).f1), .int .i64 ((rd_T64 l0_1 x6_1).f2), .bool true, .string ((rd_T64 l0_1 x6_1).f4.f0), .int .i64 ((rd_T64 l0_1 x6_1).f4.f1), .int .i64 ((rd_T64 l0_1 x6_1).f4.f2), .int .i64 ((rd_T64 l0_1 x6_1).f4.f3), .int .i64 ((rd_T64 l0_1 x6_1).f4.f4)] 64 (0, 0)) (by exact pt13 (bg BK171.out)) hb); have n3_ := Aside0.mk (below_step (bs HB.out) hb); clear BK167; clear BK168; clear BK171; clear HB; have BK167 := n0_; have BK168 := n1_; have BK171 := n2_; have HB := n3_; clear n0_ n1_ n2_ n3_; (try clear hb); (try clear hb2); (try clear hk); (try clear hi); obtain ⟨hcz34_0, hcz34_1, hcz34_2, hcz34_3, hcz34_4, hcz34_5, hcz34_6, hcz34_7, hcz34_8, hcz34_9, hcz34_10, hcz34_11, hcz34_12⟩ := bc13 BK171.out; obtain ⟨hfz34_0, hfz34_1, hfz34_2, hfz34_3, hfz34_4, hfz34_5, hfz34_6, hfz34_7, hfz34_8, hfz34_9, hfz34_10, hfz34_11, hfz34_12⟩ := bf13 BK171.out; obtain ⟨hcz35_0, hcz35_1⟩ := bc2 BK168.out; obtain ⟨hfz35_0, hfz35_1⟩ := bf2 BK168.out) | (go_at_call 71; (with_reducible refine (signalbenchref43_find.calls k1 _ _ l1_0 _ _ l1_1 ((rd_T64 l0_1 x6_1).f4.f0) t173 _ ?side1 ?side2 ?side3 ?side4 A24.out).mono ?_); (case side1 => repeat (first | exact (Kd.C_below HR1_0.out HB.out) | (with_reducible refine Kd.C_alloc ?_ _) | (with_reducible refine Kd.C_drewN ?_ _) | (with_reducible refine Kd.C_drew ?_))); (case side2 => exact HC1_0.out); (case side3 => repeat (first | exact (Kd.C_below HR1_1.out HB.out) | (with_reducible refine Kd.C_alloc ?_ _) | (with_reducible refine Kd.C_drewN ?_ _) | (with_reducible refine Kd.C_drew ?_))); (case side4 => exact HC1_1.out); rintro e w36 ⟨rfl, hb⟩; have n0_ := Aside0.mk (blk_below (bg BK167.out) hb); have n1_ := Aside0.mk (blk_below (bg BK168.out) hb); have n2_ := Aside0.mk (blk_below (bg BK171.out) hb); have n3_ := Aside0.mk (below_step (bs HB.out) hb); clear BK167; clear BK168; clear BK171; clear HB; have BK167 := n0_; have BK168 := n1_; have BK171 := n2_; have HB := n3_; clear n0_ n1_ n2_ n3_; (try clear hb); (try clear hb2); (try clear hk); (try clear hi)))
         go_ret
         exact ⟨by first | rfl | (simp [errW_none, errW_some] <;> rfl) | (simp [*, errW_none, errW_some] <;> rfl), bs HB.out⟩
        ·
         rw [if_neg c25] at H
         have c25b0 : decide (t173 < 0) = false := decide_eq_false c25
         clear c25
         have H' := Aside0.mk H
         clear H
         have hnb37 := NB167_168.out
         have hnc37 := NB168_167.out
         obtain ⟨hcz38_0, hcz38_1⟩ := bc2 BK167.out
         obtain ⟨hfz38_0, hfz38_1⟩ := bf2 BK167.out
         have p170 : 0 ≤ (x6_1 : Int) := of_decide_eq_true (by first | (with_reducible assumption) | assumption)
         have q170 : x6_1 < (l0_1.length : Int) := of_decide_eq_true (by first | (with_reducible assumption) | assumption)
         obtain ⟨ad170, e170, hx170_0, hx170_1, hx170_2, hx170_3, hx170_4, hx170_5, hx170_6, hx170_7, hx170_8, hx170_9, hx170_10, hx170_11, hx170_12⟩ := at_T64 HR0_1.out x6_1 p170 q170
         (try rw [← Nbq22.out] at hx170_7)
         cases e170
         replace hx170_0 := pw_cell_below HB.out hx170_0
         replace hx170_1 := pw_cell_below HB.out hx170_1
         replace hx170_2 := pw_cell_below HB.out hx170_2
         replace hx170_3 := pw_cell_below HB.out hx170_3
         replace hx170_4 := pw_cell_below HB.out hx170_4
         replace hx170_5 := pw_cell_below HB.out hx170_5
         replace hx170_6 := pw_cell_below HB.out hx170_6
         replace hx170_7 := pw_cell_below HB.out hx170_7
         replace hx170_8 := pw_cell_below HB.out hx170_8
         replace hx170_9 := pw_cell_below HB.out hx170_9
         replace hx170_10 := pw_cell_below HB.out hx170_10
         replace hx170_11 := pw_cell_below HB.out hx170_11
         replace hx170_12 := pw_cell_below HB.out hx170_12
         replace p170 := eq_true p170
         replace q170 := eq_true q170
         go_wp2_with (first | ((with_reducible refine gate_dst (N := 7) rfl ?_); refine box_event ?hg (N := 7) ?hd (cs := #[.string (⟨#[]⟩ : ByteArray), .int .i64 0, .int .i64 0, .int .i64 0, .int .i64 0, .int .i64 0, .int .i64 0, .bool false, .string (⟨#[]⟩ : ByteArray), .int .i64 0, .int .i64 0, .int .i64 0, .int .i64 0]) (t := 64) ?hr ?_; (case hd => rfl); (case hg => rfl); (case hr => first | (go_simp; done) | (go_simp; rfl)); intro gb171 hg w39 hbox hb; have n0_ := Aside0.mk (blk_below (bg BK167.out) hb); have n1_ := Aside0.mk (blk_below (bg BK168.out) hb); have n2_ := Aside0.mk (below_step (bs HB.out) hb); have n3_ := Aside0.mk (hbox); have n4_ := Aside0.mk ((by rw [hg]; exact (below_size (bs HB.out)) : w.heap.size ≤ gb171)); have n5_ := n4_; have n6_ := Aside0.mk ((by rw [hg]; exact Nat.ne_of_lt (blk_lt (bg BK167.out)) : gb167 ≠ gb171)); have n7_ := Aside0.mk ((by rw [hg]; exact Nat.ne_of_gt (blk_lt (bg BK167.out)) : gb171 ≠ gb167)); have n8_ := Aside0.mk ((by rw [hg]; exact Nat.ne_of_lt (blk_lt (bg BK168.out)) : gb168 ≠ gb171)); have n9_ := Aside0.mk ((by rw [hg]; exact Nat.ne_of_gt (blk_lt (bg BK168.out)) : gb171 ≠ gb168)); clear BK167; clear BK168; clear HB; have BK167 := n0_; have BK168 := n1_; have HB := n2_; have BK171 := n3_; have GW171 := n4_; have GE171 := n5_; have NB167_171 := n6_; have NB171_167 := n7_; have NB168_171 := n8_; have NB171_168 := n9_; clear n0_ n1_ n2_ n3_ n4_ n5_ n6_ n7_ n8_ n9_; clear hb hbox hg; have hnb40 := NB171_167.out; have hnc40 := NB167_171.out; have hnb41 := NB171_168.out; have hnc41 := NB168_171.out; obtain ⟨hcz42_0, hcz42_1, hcz42_2, hcz42_3, hcz42_4, hcz42_5, hcz42_6, hcz42_7, hcz42_8, hcz42_9, hcz42_10, hcz42_11, hcz42_12⟩ := bc13 BK171.out; obtain ⟨hfz42_0, hfz42_1, hfz42_2, hfz42_3, hfz42_4, hfz42_5, hfz42_6, hfz42_7, hfz42_8, hfz42_9, hfz42_10, hfz42_11, hfz42_12⟩ := bf13 BK171.out; obtain ⟨hcz43_0, hcz43_1⟩ := bc2 BK168.out; obtain ⟨hfz43_0, hfz43_1⟩ := bf2 BK168.out) | ((with_reducible refine gate_callee (f := 71) rfl ?_); refine goesL_ (some 29) rfl rfl Try.func71 (by kernel_rfl) rfl #[.agg #[.slice A1_0 l1_0.length c1_0, .slice A1_1 l1_1.length c1_1], .string ((rd_T64 l0_1 x6_1).f0.f0)] rfl (by (try simp only [List.map_toArray, List.map_cons, List.map_nil]); first | done | rfl | (simp only [List.length_drop, List.length_take]; rfl)) ?_; (with_reducible refine (signalbenchref43_find.calls k1 _ _ l1_0 _ _ l1_1 ((rd_T64 l0_1 x6_1).f0.f0) t172 _ ?side1 ?side2 ?side3 ?side4 A12.out).mono ?_); (case side1 => exact Kd.C_below HR1_0.out (bs HB.out)); (case side2 => exact HC1_0.out); (case side3 => exact Kd.C_below HR1_1.out (bs HB.out)); (case side4 => exact HC1_1.out); rintro e w44 ⟨rfl, hb⟩; refine ⟨_, rfl, ?_⟩; have n0_ := Aside0.mk (blk_below (g := gb167) (o := .cells #[.string a0_0, .slice (some ad170) l0_1.length c0_1] 24 (0, 0)) (by (iterate 13 (with_reducible repeat (first | refine blk_drewN ?_ _ | refine blk_drew ?_ | refine blk_alloc ?_ _)); refine blk_far ?_ NB167_171.out _); exact bg BK167.out) hb); have n1_ := Aside0.mk (blk_below (g := gb168) (o := .cells #[.slice A1_0 l1_0.length c1_0, .slice A1_1 l1_1.length c1_1] 28 (0, 0)) (by (iterate 13 (with_reducible repeat (first | refine blk_drewN ?_ _ | refine blk_drew ?_ | refine blk_alloc ?_ _)); refine blk_far ?_ NB168_171.out _); exact bg BK168.out) hb); have n2_ := Aside0.mk (blk_below (g := gb171) (o := .cells #[.string ((rd_T64 l0_1 x6_1).f0.f0), .int .i64 ((rd_T64 l0_1 x6_1).f0.f1), .int .i64 ((rd_T64 l0_1 x6_1).f0.f2), .int .i64 ((rd_T64 l0_1 x6_1).f0.f3), .int .i64 ((rd_T64 l0_1 x6_1).f0.f4), .int .i64 ((rd_T64 l0_1 x6_1).f1), .int .i64 ((rd_T64 l0_1 x6_1).f2), .bool true, .string ((rd_T64 l0_1 x6_1).f4.f0), .int .i64 ((rd_T64 l0_1 x6_1).f4.f1), .int .i64 ((rd_T64 l0_1 x6_1).f4.f2), .int .i64 ((rd_T64 l0_1 x6_1).f4.f3), .int .i64 ((rd_T64 l0_1 x6_1).f4.f4)] 64 (0, 0)) (by exact pt13 (bg BK171.out)) hb); have n3_ := Aside0.mk (below_step (bs HB.out) hb); clear BK167; clear BK168; clear BK171; clear HB; have BK167 := n0_; have BK168 := n1_; have BK171 := n2_; have HB := n3_; clear n0_ n1_ n2_ n3_; (try clear hb); (try clear hb2); (try clear hk); (try clear hi); obtain ⟨hcz45_0, hcz45_1, hcz45_2, hcz45_3, hcz45_4, hcz45_5, hcz45_6, hcz45_7, hcz45_8, hcz45_9, hcz45_10, hcz45_11, hcz45_12⟩ := bc13 BK171.out; obtain ⟨hfz45_0, hfz45_1, hfz45_2, hfz45_3, hfz45_4, hfz45_5, hfz45_6, hfz45_7, hfz45_8, hfz45_9, hfz45_10, hfz45_11, hfz45_12⟩ := bf13 BK171.out; obtain ⟨hcz46_0, hcz46_1⟩ := bc2 BK168.out; obtain ⟨hfz46_0, hfz46_1⟩ := bf2 BK168.out) | (go_at_call 71; (with_reducible refine (signalbenchref43_find.calls k1 _ _ l1_0 _ _ l1_1 ((rd_T64 l0_1 x6_1).f4.f0) t173 _ ?side1 ?side2 ?side3 ?side4 A24.out).mono ?_); (case side1 => repeat (first | exact (Kd.C_below HR1_0.out HB.out) | (with_reducible refine Kd.C_alloc ?_ _) | (with_reducible refine Kd.C_drewN ?_ _) | (with_reducible refine Kd.C_drew ?_))); (case side2 => exact HC1_0.out); (case side3 => repeat (first | exact (Kd.C_below HR1_1.out HB.out) | (with_reducible refine Kd.C_alloc ?_ _) | (with_reducible refine Kd.C_drewN ?_ _) | (with_reducible refine Kd.C_drew ?_))); (case side4 => exact HC1_1.out); rintro e w47 ⟨rfl, hb⟩; have n0_ := Aside0.mk (blk_below (bg BK167.out) hb); have n1_ := Aside0.mk (blk_below (bg BK168.out) hb); have n2_ := Aside0.mk (blk_below (bg BK171.out) hb); have n3_ := Aside0.mk (below_step (bs HB.out) hb); clear BK167; clear BK168; clear BK171; clear HB; have BK167 := n0_; have BK168 := n1_; have BK171 := n2_; have HB := n3_; clear n0_ n1_ n2_ n3_; (try clear hb); (try clear hb2); (try clear hk); (try clear hi)))
         go_roundg k1
         case measure => have := HK1.out; omega
         case rel => (try rw [Nbq22.out] at H'); (try rw [Nbq22.out] at BK167); (try rw [Nbq22.out] at BK168); (try rw [Nbq22.out] at BK171); exact ⟨(wrap64 (x6_1 + 1)), (by first | rfl | (simp; done) | (simp [*]; done)), H', ⟨by have := HK1.out; omega⟩, ⟨bg BK167.out⟩, ⟨bg BK168.out⟩, ⟨bs HB.out⟩⟩
       ·
        replace c23 := Bool.eq_false_iff.mpr c23
        subst c23
        have H1 : (signalbenchref43_Check.l0 k1 (wrap64 (x6_1 + 1)) a0_0 l0_1 l1_0 l1_1) = some r := by rw [if_neg (show ¬ (false = true) by decide)] at H; exact H
        clear H
        have H := H1
        clear H1
        have H' := Aside0.mk H
        clear H
        have hnb48 := NB167_168.out
        have hnc48 := NB168_167.out
        obtain ⟨hcz49_0, hcz49_1⟩ := bc2 BK167.out
        obtain ⟨hfz49_0, hfz49_1⟩ := bf2 BK167.out
        have p170 : 0 ≤ (x6_1 : Int) := of_decide_eq_true (by first | (with_reducible assumption) | assumption)
        have q170 : x6_1 < (l0_1.length : Int) := of_decide_eq_true (by first | (with_reducible assumption) | assumption)
        obtain ⟨ad170, e170, hx170_0, hx170_1, hx170_2, hx170_3, hx170_4, hx170_5, hx170_6, hx170_7, hx170_8, hx170_9, hx170_10, hx170_11, hx170_12⟩ := at_T64 HR0_1.out x6_1 p170 q170
        (try rw [← Nbq22.out] at hx170_7)
        cases e170
        replace hx170_0 := pw_cell_below HB.out hx170_0
        replace hx170_1 := pw_cell_below HB.out hx170_1
        replace hx170_2 := pw_cell_below HB.out hx170_2
        replace hx170_3 := pw_cell_below HB.out hx170_3
        replace hx170_4 := pw_cell_below HB.out hx170_4
        replace hx170_5 := pw_cell_below HB.out hx170_5
        replace hx170_6 := pw_cell_below HB.out hx170_6
        replace hx170_7 := pw_cell_below HB.out hx170_7
        replace hx170_8 := pw_cell_below HB.out hx170_8
        replace hx170_9 := pw_cell_below HB.out hx170_9
        replace hx170_10 := pw_cell_below HB.out hx170_10
        replace hx170_11 := pw_cell_below HB.out hx170_11
        replace hx170_12 := pw_cell_below HB.out hx170_12
        replace p170 := eq_true p170
        replace q170 := eq_true q170
        go_wp2_with (first | ((with_reducible refine gate_dst (N := 7) rfl ?_); refine box_event ?hg (N := 7) ?hd (cs := #[.string (⟨#[]⟩ : ByteArray), .int .i64 0, .int .i64 0, .int .i64 0, .int .i64 0, .int .i64 0, .int .i64 0, .bool false, .string (⟨#[]⟩ : ByteArray), .int .i64 0, .int .i64 0, .int .i64 0, .int .i64 0]) (t := 64) ?hr ?_; (case hd => rfl); (case hg => rfl); (case hr => first | (go_simp; done) | (go_simp; rfl)); intro gb171 hg w50 hbox hb; have n0_ := Aside0.mk (blk_below (bg BK167.out) hb); have n1_ := Aside0.mk (blk_below (bg BK168.out) hb); have n2_ := Aside0.mk (below_step (bs HB.out) hb); have n3_ := Aside0.mk (hbox); have n4_ := Aside0.mk ((by rw [hg]; exact (below_size (bs HB.out)) : w.heap.size ≤ gb171)); have n5_ := n4_; have n6_ := Aside0.mk ((by rw [hg]; exact Nat.ne_of_lt (blk_lt (bg BK167.out)) : gb167 ≠ gb171)); have n7_ := Aside0.mk ((by rw [hg]; exact Nat.ne_of_gt (blk_lt (bg BK167.out)) : gb171 ≠ gb167)); have n8_ := Aside0.mk ((by rw [hg]; exact Nat.ne_of_lt (blk_lt (bg BK168.out)) : gb168 ≠ gb171)); have n9_ := Aside0.mk ((by rw [hg]; exact Nat.ne_of_gt (blk_lt (bg BK168.out)) : gb171 ≠ gb168)); clear BK167; clear BK168; clear HB; have BK167 := n0_; have BK168 := n1_; have HB := n2_; have BK171 := n3_; have GW171 := n4_; have GE171 := n5_; have NB167_171 := n6_; have NB171_167 := n7_; have NB168_171 := n8_; have NB171_168 := n9_; clear n0_ n1_ n2_ n3_ n4_ n5_ n6_ n7_ n8_ n9_; clear hb hbox hg; have hnb51 := NB171_167.out; have hnc51 := NB167_171.out; have hnb52 := NB171_168.out; have hnc52 := NB168_171.out; obtain ⟨hcz53_0, hcz53_1, hcz53_2, hcz53_3, hcz53_4, hcz53_5, hcz53_6, hcz53_7, hcz53_8, hcz53_9, hcz53_10, hcz53_11, hcz53_12⟩ := bc13 BK171.out; obtain ⟨hfz53_0, hfz53_1, hfz53_2, hfz53_3, hfz53_4, hfz53_5, hfz53_6, hfz53_7, hfz53_8, hfz53_9, hfz53_10, hfz53_11, hfz53_12⟩ := bf13 BK171.out; obtain ⟨hcz54_0, hcz54_1⟩ := bc2 BK168.out; obtain ⟨hfz54_0, hfz54_1⟩ := bf2 BK168.out) | ((with_reducible refine gate_callee (f := 71) rfl ?_); refine goesL_ (some 29) rfl rfl Try.func71 (by kernel_rfl) rfl #[.agg #[.slice A1_0 l1_0.length c1_0, .slice A1_1 l1_1.length c1_1], .string ((rd_T64 l0_1 x6_1).f0.f0)] rfl (by (try simp only [List.map_toArray, List.map_cons, List.map_nil]); first | done | rfl | (simp only [List.length_drop, List.length_take]; rfl)) ?_; (with_reducible refine (signalbenchref43_find.calls k1 _ _ l1_0 _ _ l1_1 ((rd_T64 l0_1 x6_1).f0.f0) t172 _ ?side1 ?side2 ?side3 ?side4 A12.out).mono ?_); (case side1 => exact Kd.C_below HR1_0.out (bs HB.out)); (case side2 => exact HC1_0.out); (case side3 => exact Kd.C_below HR1_1.out (bs HB.out)); (case side4 => exact HC1_1.out); rintro e w55 ⟨rfl, hb⟩; refine ⟨_, rfl, ?_⟩; have n0_ := Aside0.mk (blk_below (g := gb167) (o := .cells #[.string a0_0, .slice (some ad170) l0_1.length c0_1] 24 (0, 0)) (by (iterate 13 (with_reducible repeat (first | refine blk_drewN ?_ _ | refine blk_drew ?_ | refine blk_alloc ?_ _)); refine blk_far ?_ NB167_171.out _); exact bg BK167.out) hb); have n1_ := Aside0.mk (blk_below (g := gb168) (o := .cells #[.slice A1_0 l1_0.length c1_0, .slice A1_1 l1_1.length c1_1] 28 (0, 0)) (by (iterate 13 (with_reducible repeat (first | refine blk_drewN ?_ _ | refine blk_drew ?_ | refine blk_alloc ?_ _)); refine blk_far ?_ NB168_171.out _); exact bg BK168.out) hb); have n2_ := Aside0.mk (blk_below (g := gb171) (o := .cells #[.string ((rd_T64 l0_1 x6_1).f0.f0), .int .i64 ((rd_T64 l0_1 x6_1).f0.f1), .int .i64 ((rd_T64 l0_1 x6_1).f0.f2), .int .i64 ((rd_T64 l0_1 x6_1).f0.f3), .int .i64 ((rd_T64 l0_1 x6_1).f0.f4), .int .i64 ((rd_T64 l0_1 x6_1).f1), .int .i64 ((rd_T64 l0_1 x6_1).f2), .bool false, .string ((rd_T64 l0_1 x6_1).f4.f0), .int .i64 ((rd_T64 l0_1 x6_1).f4.f1), .int .i64 ((rd_T64 l0_1 x6_1).f4.f2), .int .i64 ((rd_T64 l0_1 x6_1).f4.f3), .int .i64 ((rd_T64 l0_1 x6_1).f4.f4)] 64 (0, 0)) (by exact pt13 (bg BK171.out)) hb); have n3_ := Aside0.mk (below_step (bs HB.out) hb); clear BK167; clear BK168; clear BK171; clear HB; have BK167 := n0_; have BK168 := n1_; have BK171 := n2_; have HB := n3_; clear n0_ n1_ n2_ n3_; (try clear hb); (try clear hb2); (try clear hk); (try clear hi); obtain ⟨hcz56_0, hcz56_1, hcz56_2, hcz56_3, hcz56_4, hcz56_5, hcz56_6, hcz56_7, hcz56_8, hcz56_9, hcz56_10, hcz56_11, hcz56_12⟩ := bc13 BK171.out; obtain ⟨hfz56_0, hfz56_1, hfz56_2, hfz56_3, hfz56_4, hfz56_5, hfz56_6, hfz56_7, hfz56_8, hfz56_9, hfz56_10, hfz56_11, hfz56_12⟩ := bf13 BK171.out))
        go_roundg k1
        case measure => have := HK1.out; omega
        case rel => (try rw [Nbq22.out] at H'); exact ⟨(wrap64 (x6_1 + 1)), (by first | rfl | (simp; done) | (simp [*]; done)), H', ⟨by have := HK1.out; omega⟩, ⟨bg BK167.out⟩, ⟨bg BK168.out⟩, ⟨bs HB.out⟩⟩
     ·
      rw [if_neg c11] at H
      exact absurd H (by simp)
    ·
     rw [if_neg c10] at H
     have c10b0 : decide (x6_1 < (l0_1.length : Int)) = false := decide_eq_false c10
     clear c10
     obtain rfl := Option.some.inj H
     have hnb57 := NB167_168.out
     have hnc57 := NB168_167.out
     obtain ⟨hcz58_0, hcz58_1⟩ := bc2 BK167.out
     obtain ⟨hfz58_0, hfz58_1⟩ := bf2 BK167.out
     go_wp2
     go_ret
     exact ⟨by first | rfl | (simp [errW_none, errW_some] <;> rfl) | (simp [*, errW_none, errW_some] <;> rfl), bs HB.out⟩
 ·
  rw [if_neg c4] at H
  have c4b0 : (t169 == 0) = false := beq_eq_false_iff_ne.mpr c4
  have c4b1 : (t169 != 0) = true := bne_iff_ne.mpr c4
  obtain rfl := Option.some.inj H
  go_enter Try.func40, Try.ntmps40
  go_wp2_with (first | ((with_reducible refine gate_dst (N := 2) rfl ?_); refine box_event ?hg (N := 2) ?hd (cs := #[.string a0_0, .slice A0_1 l0_1.length c0_1]) (t := 24) ?hr ?_; (case hd => rfl); (case hg => rfl); (case hr => first | (go_simp; done) | (go_simp; rfl)); intro gb167 hg w59 hbox hb; have n0_ := Aside0.mk (below_step (bs HB.out) hb); have n1_ := Aside0.mk (hbox); have n2_ := Aside0.mk ((by rw [hg]; exact (below_size (bs HB.out)) : w.heap.size ≤ gb167)); have n3_ := n2_; clear HB; have HB := n0_; have BK167 := n1_; have GW167 := n2_; have GE167 := n3_; clear n0_ n1_ n2_ n3_; clear hb hbox hg) | ((with_reducible refine gate_dst (N := 3) rfl ?_); refine box_event ?hg (N := 3) ?hd (cs := #[.slice A1_0 l1_0.length c1_0, .slice A1_1 l1_1.length c1_1]) (t := 28) ?hr ?_; (case hd => rfl); (case hg => rfl); (case hr => first | (go_simp; done) | (go_simp; rfl)); intro gb168 hg w60 hbox hb; have n0_ := Aside0.mk (blk_below (bg BK167.out) hb); have n1_ := Aside0.mk (below_step (bs HB.out) hb); have n2_ := Aside0.mk (hbox); have n3_ := Aside0.mk ((by rw [hg]; exact (below_size (bs HB.out)) : w.heap.size ≤ gb168)); have n4_ := n3_; have n5_ := Aside0.mk ((by rw [hg]; exact Nat.ne_of_lt (blk_lt (bg BK167.out)) : gb167 ≠ gb168)); have n6_ := Aside0.mk ((by rw [hg]; exact Nat.ne_of_gt (blk_lt (bg BK167.out)) : gb168 ≠ gb167)); clear BK167; clear HB; have BK167 := n0_; have HB := n1_; have BK168 := n2_; have GW168 := n3_; have GE168 := n4_; have NB167_168 := n5_; have NB168_167 := n6_; clear n0_ n1_ n2_ n3_ n4_ n5_ n6_; clear hb hbox hg; have hnb61 := NB167_168.out; have hnc61 := NB168_167.out; obtain ⟨hcz62_0, hcz62_1⟩ := bc2 BK167.out; obtain ⟨hfz62_0, hfz62_1⟩ := bf2 BK167.out) | ((with_reducible refine gate_callee (f := 70) rfl ?_); refine goesL_ (some 9) rfl rfl Try.func70 (by kernel_rfl) rfl #[.agg #[.string a0_0, .slice A0_1 l0_1.length c0_1]] rfl (by (try simp only [List.map_toArray, List.map_cons, List.map_nil]); first | done | rfl | (simp only [List.length_drop, List.length_take]; rfl)) ?_; (with_reducible refine (signalbenchref43_wrong.calls k a0_0 _ _ l0_1 t169 _ ?side1 ?side2 A3.out).mono ?_); (case side1 => repeat (first | exact (Kd.C_below HR0_1.out HB.out) | (with_reducible refine Kd.C_alloc ?_ _) | (with_reducible refine Kd.C_drewN ?_ _) | (with_reducible refine Kd.C_drew ?_))); (case side2 => exact HC0_1.out); rintro e w63 ⟨rfl, hb⟩; refine ⟨_, rfl, ?_⟩; have n0_ := Aside0.mk (blk_below (bg BK167.out) hb); have n1_ := Aside0.mk (blk_below (bg BK168.out) hb); have n2_ := Aside0.mk (below_step (bs HB.out) hb); clear BK167; clear BK168; clear HB; have BK167 := n0_; have BK168 := n1_; have HB := n2_; clear n0_ n1_ n2_; (try clear hb); (try clear hb2); (try clear hk); (try clear hi)))
  go_ret
  exact ⟨by first | rfl | (simp [errW_none, errW_some] <;> rfl) | (simp [*, errW_none, errW_some] <;> rfl), bs HB.out⟩

end Go.Proofs.Ytgdjiphljadlcaa.H
