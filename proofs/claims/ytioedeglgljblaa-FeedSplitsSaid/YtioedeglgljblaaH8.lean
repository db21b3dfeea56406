-- Printed by wip/hprint.py (this project's own driver of the kit's print) out of the translation; Lean checks it.
import Derived.Test.YtioedeglgljblaaH0
import Derived.Test.YtioedeglgljblaaH6
import Derived.Test.YtioedeglgljblaaH7
namespace Go.Proofs.Ytioedeglgljblaa.H
open Go.RowKit Go.Proofs.YtioedeglgljblaaW.PrintWords Go.Proofs.YtioedeglgljblaaW.PrintLast Go.Proofs.YtioedeglgljblaaW.PrintMore
attribute [local go_sem] max2_int min2_int max_two min_two max_three min_three max_four min_four   -- for this text's walks alone
set_option linter.unusedVariables false
set_option linter.unusedSimpArgs false

/-! ### feed_Levels: function 9 -/
mutual
def feed_Levels.l0 : Nat → List Int → List (S48) → Int → List (S46) → Int → Int → Option ((List (S48)) × Int)
 | 0, _, _, _, _, _, _ => none
 | k + 1, x7, x9, x10, x34, x35, x36 => if x36 < x35 then (if 0 ≤ x36 then (if x36 < (x34.length : Int) then (feed_Levels.l1 k x7 x9 x10 0 x34 x35 x36 x7 (x7.length : Int) 0 ((rd_T46 x34 x36).f0) ((rd_T46 x34 x36).f1)) else (none)) else (none)) else (some (x9, 0))
def feed_Levels.l1 : Nat → List Int → List (S48) → Int → Int → List (S46) → Int → Int → List Int → Int → Int → Int → Int → Option ((List (S48)) × Int)
 | 0, _, _, _, _, _, _, _, _, _, _, _, _ => none
 | k + 1, x7, x9, x10, x13, x34, x35, x36, x40, x41, x42, x132000, x132001 => if x42 < x41 then (if 0 ≤ x42 then (if x42 < (x40.length : Int) then (if 0 ≤ (rd x40 x42) then (feed_Levels.l1 k x7 x9 x10 (Go.bits .or .i64 x13 (shl .i64 (Go.bits .and .i64 (shr .i64 x132000 (rd x40 x42)) 1) x42)) x34 x35 x36 x40 x41 (wrap64 (x42 + 1)) x132000 x132001) else (none)) else (none)) else (none)) else (if x9.length < 2199023255552 then (feed_Levels.l0 k x7 (x9 ++ [(⟨1, x10, wrap64 (x10 + x132001), x13, 0, (⟨#[]⟩ : ByteArray), 0⟩ : S48)]) (wrap64 (x10 + x132001)) x34 x35 (wrap64 (x36 + 1))) else (none))
end
def feed_Levels.f (k : Nat) (l0_0 : List ByteArray) (l0_1 : List (S46)) (l1 : List ByteArray) : Option ((List (S48)) × Int) := (capture_Check.f k l0_0 l0_1).bind fun t125 => (if t125 = 0 then (if (l1.length : Int) = 0 then (some (([] : List (S48)), 1)) else ((feed_places.f k l0_0 l0_1 l1).bind fun bt126 => (if bt126.2 = 0 then (feed_Levels.l0 k bt126.1 ([] : List (S48)) 0 l0_1 (l0_1.length : Int) 0) else (some (([] : List (S48)), bt126.2))))) else (some (([] : List (S48)), t125)))
set_option maxHeartbeats 8000000 in
set_option maxRecDepth 100000 in
theorem feed_Levels.calls (k : Nat) (A0_0 : Option Addr) (c0_0 : Nat) (l0_0 : List ByteArray) (A0_1 : Option Addr) (c0_1 : Nat) (l0_1 : List (S46)) (A1 : Option Addr) (c1 : Nat) (l1 : List ByteArray) (r1 : List (S48)) (r2 : Int) (w : World) (hr0_0 : Kd.C Kd.string w A0_0 l0_0.length l0_0) (hc0_0 : l0_0.length ≤ c0_0) (hr0_1 : Kd.C k46 w A0_1 l0_1.length l0_1) (hc0_1 : l0_1.length ≤ c0_1) (hr1 : Kd.C Kd.string w A1 l1.length l1) (hc1 : l1.length ≤ c1) (h : feed_Levels.f k l0_0 l0_1 l1 = some (r1, r2)) :
  Calls Try.prog 9 #[.agg #[.slice A0_0 l0_0.length c0_0, .slice A0_1 l0_1.length c0_1], .slice A1 l1.length c1] w fun e w' => ∃ v0_ : Value, e = .returned (.tuple #[v0_, .int .i64 r2]) ∧ Kd.R k48 48 w' w.heap.size (fun _ => True) v0_ r1 ∧ Below w.heap.size w w' := by
 have hu25 := Try.underlying25
 have hu46 := Try.underlying46
 have hu48 := Try.underlying48
 have HR0_0 := Aside0.mk hr0_0
 have HC0_0 := Aside0.mk hc0_0
 clear hr0_0 hc0_0
 have HR0_1 := Aside0.mk hr0_1
 have HC0_1 := Aside0.mk hc0_1
 clear hr0_1 hc0_1
 have HR1 := Aside0.mk hr1
 have HC1 := Aside0.mk hc1
 clear hr1 hc1
 have HB := Aside0.mk (Below.refl w.heap.size w)
 have H : ((capture_Check.f k l0_0 l0_1).bind fun t125 => (if t125 = 0 then (if (l1.length : Int) = 0 then (some (([] : List (S48)), 1)) else ((feed_places.f k l0_0 l0_1 l1).bind fun bt126 => (if bt126.2 = 0 then (feed_Levels.l0 k bt126.1 ([] : List (S48)) 0 l0_1 (l0_1.length : Int) 0) else (some (([] : List (S48)), bt126.2))))) else (some (([] : List (S48)), t125)))) = some (r1, r2) := h
 clear h
 replace H := Option.bind_eq_some_iff.mp H
 obtain ⟨t125, A30, H⟩ := H
 replace H : (if t125 = 0 then (if (l1.length : Int) = 0 then (some (([] : List (S48)), 1)) else ((feed_places.f k l0_0 l0_1 l1).bind fun bt126 => (if bt126.2 = 0 then (feed_Levels.l0 k bt126.1 ([] : List (S48)) 0 l0_1 (l0_1.length : Int) 0) else (some (([] : List (S48)), bt126.2))))) else (some (([] : List (S48)), t125))) = some (r1, r2) := H
 have A3 := Aside0.mk A30
 clear A30
 by_cases c4 : t125 = 0
 ·
  rw [if_pos c4] at H
  have c4b0 : (t125 == 0) = true := beq_iff_eq.mpr c4
  have c4b1 : (t125 != 0) = false := bne_eq_false_iff_eq.mpr c4
  clear c4
  by_cases c5 : (l1.length : Int) = 0
  ·
   rw [if_pos c5] at H
   have c5b0 : ((l1.length : Int) == 0) = true := beq_iff_eq.mpr c5
   have c5b1 : ((l1.length : Int) != 0) = false := bne_eq_false_iff_eq.mpr c5
   clear c5
   simp only [Option.some.injEq, Prod.mk.injEq] at H
   obtain ⟨rfl, rfl⟩ := H
   go_enter Try.func9, Try.ntmps9
   go_wp2_with (first | ((with_reducible refine gate_dst (N := 2) rfl ?_); refine box_event ?hg (N := 2) ?hd (cs := #[.slice A0_0 l0_0.length c0_0, .slice A0_1 l0_1.length c0_1]) (t := 25) ?hr ?_; (case hd => rfl); (case hg => rfl); (case hr => first | (go_simp; done) | (go_simp; rfl)); intro gb124 hg w6 hbox hb; have n0_ := Aside0.mk (below_step (bs HB.out) hb); have n1_ := Aside0.mk (hbox); have n2_ := Aside0.mk ((by rw [hg]; exact (below_size (bs HB.out)) : w.heap.size ≤ gb124)); have n3_ := n2_; clear HB; have HB := n0_; have BK124 := n1_; have GW124 := n2_; have GE124 := n3_; clear n0_ n1_ n2_ n3_; clear hb hbox hg; obtain ⟨hcz7_0, hcz7_1⟩ := bc2 BK124.out; obtain ⟨hfz7_0, hfz7_1⟩ := bf2 BK124.out) | ((with_reducible refine gate_callee (f := 23) rfl ?_); refine goesL_ (some 17) rfl rfl Try.func23 (by kernel_rfl) rfl #[.agg #[.slice A0_0 l0_0.length c0_0, .slice A0_1 l0_1.length c0_1]] rfl (by (try simp only [List.map_toArray, List.map_cons, List.map_nil]); first | done | rfl | (simp only [List.length_drop, List.length_take]; rfl)) ?_; (with_reducible refine (capture_Check.calls k _ _ l0_0 _ _ l0_1 t125 _ ?side1 ?side2 ?side3 ?side4 A3.out).mono ?_); (case side1 => repeat (first | exact (Kd.C_below HR0_0.out HB.out) | (with_reducible refine Kd.C_alloc ?_ _) | (with_reducible refine Kd.C_drewN ?_ _) | (with_reducible refine Kd.C_drew ?_))); (case side2 => exact HC0_0.out); (case side3 => repeat (first | exact (Kd.C_below HR0_1.out HB.out) | (with_reducible refine Kd.C_alloc ?_ _) | (with_reducible refine Kd.C_drewN ?_ _) | (with_reducible refine Kd.C_drew ?_))); (case side4 => exact HC0_1.out); rintro e w8 ⟨rfl, hb⟩; refine ⟨_, rfl, ?_⟩; have n0_ := Aside0.mk (blk_below (bg BK124.out) hb); have n1_ := Aside0.mk (below_step (bs HB.out) hb); clear BK124; clear HB; have BK124 := n0_; have HB := n1_; clear n0_ n1_; (try clear hb); (try clear hb2); (try clear hk); (try clear hi)))
   go_ret2
   exact ⟨_, by first | rfl | (simp [errW_none, errW_some] <;> rfl) | (simp [*, errW_none, errW_some] <;> rfl), by first | exact Kd.R_nil _ _ _ _ _ | exact Kd.N_nil _ _ _ _ _ | exact Kd.V_nil _ _ _ _ _ | exact Kd.Q_nil _ _ _ _ _ | exact Kd.S_nil _ _ _ _ _, bs HB.out⟩
  ·
   rw [if_neg c5] at H
   have c5b0 : ((l1.length : Int) == 0) = false := beq_eq_false_iff_ne.mpr c5
   have c5b1 : ((l1.length : Int) != 0) = true := bne_iff_ne.mpr c5
   have c5b2 : ¬ (l1 = []) := fun h_ => c5 (by rw [h_]; rfl)
   replace H := Option.bind_eq_some_iff.mp H
   obtain ⟨⟨t126, t129⟩, A90, H⟩ := H
   replace H : (if t129 = 0 then (feed_Levels.l0 k t126 ([] : List (S48)) 0 l0_1 (l0_1.length : Int) 0) else (some (([] : List (S48)), t129))) = some (r1, r2) := H
   have A9 := Aside0.mk A90
   clear A90
   by_cases c10 : t129 = 0
   ·
    rw [if_pos c10] at H
    have c10b0 : (t129 == 0) = true := beq_iff_eq.mpr c10
    have c10b1 : (t129 != 0) = false := bne_eq_false_iff_eq.mpr c10
    clear c10
    have H' := Aside0.mk H
    clear H
    go_enter Try.func9, Try.ntmps9
    go_wp2_with (first | ((with_reducible refine gate_dst (N := 2) rfl ?_); refine box_event ?hg (N := 2) ?hd (cs := #[.slice A0_0 l0_0.length c0_0, .slice A0_1 l0_1.length c0_1]) (t := 25) ?hr ?_; (case hd => rfl); (case hg => rfl); (case hr => first | (go_simp; done) | (go_simp; rfl)); intro gb124 hg w11 hbox hb; have n0_ := Aside0.mk (below_step (bs HB.out) hb); have n1_ := Aside0.mk (hbox); have n2_ := Aside0.mk ((by rw [hg]; exact (below_size (bs HB.out)) : w.heap.size ≤ gb124)); have n3_ := n2_; clear HB; have HB := n0_; have BK124 := n1_; have GW124 := n2_; have GE124 := n3_; clear n0_ n1_ n2_ n3_; clear hb hbox hg; obtain ⟨hcz12_0, hcz12_1⟩ := bc2 BK124.out; obtain ⟨hfz12_0, hfz12_1⟩ := bf2 BK124.out) | ((with_reducible refine gate_callee (f := 23) rfl ?_); refine goesL_ (some 17) rfl rfl Try.func23 (by kernel_rfl) rfl #[.agg #[.slice A0_0 l0_0.length c0_0, .slice A0_1 l0_1.length c0_1]] rfl (by (try simp only [List.map_toArray, List.map_cons, List.map_nil]); first | done | rfl | (simp only [List.length_drop, List.length_take]; rfl)) ?_; (with_reducible refine (capture_Check.calls k _ _ l0_0 _ _ l0_1 t125 _ ?side1 ?side2 ?side3 ?side4 A3.out).mono ?_); (case side1 => repeat (first | exact (Kd.C_below HR0_0.out HB.out) | (with_reducible refine Kd.C_alloc ?_ _) | (with_reducible refine Kd.C_drewN ?_ _) | (with_reducible refine Kd.C_drew ?_))); (case side2 => exact HC0_0.out); (case side3 => repeat (first | exact (Kd.C_below HR0_1.out HB.out) | (with_reducible refine Kd.C_alloc ?_ _) | (with_reducible refine Kd.C_drewN ?_ _) | (with_reducible refine Kd.C_drew ?_))); (case side4 => exact HC0_1.out); rintro e w13 ⟨rfl, hb⟩; refine ⟨_, rfl, ?_⟩; have n0_ := Aside0.mk (blk_below (bg BK124.out) hb); have n1_ := Aside0.mk (below_step (bs HB.out) hb); clear BK124; clear HB; have BK124 := n0_; have HB := n1_; clear n0_ n1_; (try clear hb); (try clear hb2); (try clear hk); (try clear hi); obtain ⟨hcz14_0, hcz14_1⟩ := bc2 BK124.out; obtain ⟨hfz14_0, hfz14_1⟩ := bf2 BK124.out) | ((with_reducible refine gate_callee (f := 24) rfl ?_); refine goesL_ (some 27) rfl rfl Try.func24 (by kernel_rfl) rfl #[.agg #[.slice A0_0 l0_0.length c0_0, .slice A0_1 l0_1.length c0_1], .slice A1 l1.length c1] rfl (by (try simp only [List.map_toArray, List.map_cons, List.map_nil]); first | done | rfl | (simp only [List.length_drop, List.length_take]; rfl)) ?_; (with_reducible refine (feed_places.calls k _ _ l0_0 _ _ l0_1 _ _ l1 t126 t129 _ ?side1 ?side2 ?side3 ?side4 ?side5 ?side6 A9.out).mono ?_); (case side1 => repeat (first | exact (Kd.C_below HR0_0.out HB.out) | (with_reducible refine Kd.C_alloc ?_ _) | (with_reducible refine Kd.C_drewN ?_ _) | (with_reducible refine Kd.C_drew ?_))); (case side2 => exact HC0_0.out); (case side3 => repeat (first | exact (Kd.C_below HR0_1.out HB.out) | (with_reducible refine Kd.C_alloc ?_ _) | (with_reducible refine Kd.C_drewN ?_ _) | (with_reducible refine Kd.C_drew ?_))); (case side4 => exact HC0_1.out); (case side5 => repeat (first | exact (Kd.C_below HR1.out HB.out) | (with_reducible refine Kd.C_alloc ?_ _) | (with_reducible refine Kd.C_drewN ?_ _) | (with_reducible refine Kd.C_drew ?_))); (case side6 => exact HC1.out); rintro e w15 ⟨v127, rfl, ho0, hb⟩; refine ⟨_, rfl, ?_⟩; have n0_ := Aside0.mk (Kd.R_lower ho0 (below_size (bs HB.out))); have n1_ := Aside0.mk (blk_below (bg BK124.out) hb); have n2_ := Aside0.mk (below_step (bs HB.out) hb); clear BK124; clear HB; have HO128 := n0_; have BK124 := n1_; have HB := n2_; clear n0_ n1_ n2_; (try clear hb); (try clear hb2); (try clear hk); (try clear hi); (try clear ho0); obtain ⟨hcz16_0, hcz16_1⟩ := bc2 BK124.out; obtain ⟨hfz16_0, hfz16_1⟩ := bf2 BK124.out))
    go_loopg [9, 10, 36] k (fun kq v9 v10 v36 w' => ∃ (x9_1 : List (S48)) (x10_1 : Int) (x36_1 : Int), v10 = .int .i64 x10_1 ∧ v36 = .int .i64 x36_1 ∧ Aside0 (feed_Levels.l0 kq t126 x9_1 x10_1 l0_1 (l0_1.length : Int) x36_1 = some (r1, r2)) ∧ Aside0 (kq ≤ k) ∧ Aside0 (Kd.R (Kd.int .i64) 3 w' w.heap.size (fun _ => True) v127 t126) ∧ Aside0 (Kd.R k48 48 w' w.heap.size (fun _ => True) v9 x9_1) ∧ Aside0 (w'.heap[gb124]? = some (.cells #[(.slice A0_0 l0_0.length c0_0), (.slice A0_1 l0_1.length c0_1)] 25 (0, 0))) ∧ Aside0 (Below w.heap.size w w'))
    case atStart => exact ⟨(([] : List (S48))), (0), (0), (by first | rfl | (simp; done) | (simp [*]; done)), (by first | rfl | (simp; done) | (simp [*]; done)), H', ⟨Nat.le_refl _⟩, ⟨by (with_reducible repeat (first | apply Kd.R_alloc | apply Kd.R_drewN | apply Kd.R_drew)); exact HO128.out⟩, ⟨by first | exact Kd.R_nil _ _ _ _ _ | exact Kd.N_nil _ _ _ _ _ | exact Kd.V_nil _ _ _ _ _ | exact Kd.Q_nil _ _ _ _ _ | exact Kd.S_nil _ _ _ _ _⟩, ⟨bg BK124.out⟩, ⟨bs HB.out⟩⟩
    case round =>
     clear H'
     try clear c1
     try clear c2
     try clear p2
     try clear c4
     try clear c4b0
     try clear c4b1
     try clear c5
     try clear c5b0
     try clear c5b1
     try clear c5b2
     try clear c9
     try clear c10
     try clear c10b0
     try clear c10b1
     try clear hcz12_0 hcz12_1
     try clear hcz14_0 hcz14_1
     try clear hcz16_0 hcz16_1
     try clear hcz7_0 hcz7_1
     try clear hfz12_0 hfz12_1
     try clear hfz14_0 hfz14_1
     try clear hfz16_0 hfz16_1
     try clear hfz7_0 hfz7_1
     obtain ⟨x9_1, x10_1, x36_1, rfl, rfl, HA, HK1, HO_7, HO_9, BK124, HB⟩ := hrel
     cases gk with
     | zero => exact absurd HA.out (by simp [feed_Levels.l0])
     | succ k1 =>
      have H := HA.out
      clear HA
      simp only [feed_Levels.l0] at H
      by_cases c17 : x36_1 < (l0_1.length : Int)
      ·
       rw [if_pos c17] at H
       have c17b0 : decide (x36_1 < (l0_1.length : Int)) = true := decide_eq_true c17
       clear c17
       by_cases c18 : 0 ≤ x36_1
       ·
        rw [if_pos c18] at H
        have c18b0 : decide (0 ≤ x36_1) = true := decide_eq_true c18
        clear c18
        by_cases c19 : x36_1 < (l0_1.length : Int)
        ·
         rw [if_pos c19] at H
         have c19b0 : decide (x36_1 < (l0_1.length : Int)) = true := decide_eq_true c19
         clear c19
         have H' := Aside0.mk H
         clear H
         have p130 : 0 ≤ (x36_1 : Int) := of_decide_eq_true (by first | (with_reducible assumption) | assumption)
         have q130 : x36_1 < (l0_1.length : Int) := of_decide_eq_true (by first | (with_reducible assumption) | assumption)
         obtain ⟨ad130, e130, hx130_0, hx130_1⟩ := at_T46 HR0_1.out x36_1 p130 q130
         cases e130
         replace hx130_0 := pw_cell_below HB.out hx130_0
         replace hx130_1 := pw_cell_below HB.out hx130_1
         replace p130 := eq_true p130
         replace q130 := eq_true q130
         go_wp2_with (first | ((with_reducible refine gate_dst (N := 12) rfl ?_); refine box_event ?hg (N := 12) ?hd (cs := #[.int .i64 0, .int .i64 0]) (t := 46) ?hr ?_; (case hd => rfl); (case hg => rfl); (case hr => first | (go_simp; done) | (go_simp; rfl)); intro gb131 hg w20 hbox hb; have n0_ := Aside0.mk (Kd.R_below (rq HO_7.out) hb); have n1_ := Aside0.mk (Kd.R_below (rq HO_9.out) hb); have n2_ := Aside0.mk (blk_below (bg BK124.out) hb); have n3_ := Aside0.mk (below_step (bs HB.out) hb); have n4_ := Aside0.mk (hbox); have n5_ := Aside0.mk ((by rw [hg]; exact (below_size (bs HB.out)) : w.heap.size ≤ gb131)); have n6_ := n5_; have n7_ := Aside0.mk ((by rw [hg]; exact Nat.ne_of_lt (blk_lt (bg BK124.out)) : gb124 ≠ gb131)); have n8_ := Aside0.mk ((by rw [hg]; exact Nat.ne_of_gt (blk_lt (bg BK124.out)) : gb131 ≠ gb124)); clear HO_7; clear HO_9; clear BK124; clear HB; have HO_7 := n0_; have HO_9 := n1_; have BK124 := n2_; have HB := n3_; have BK131 := n4_; have GW131 := n5_; have GE131 := n6_; have NB124_131 := n7_; have NB131_124 := n8_; clear n0_ n1_ n2_ n3_ n4_ n5_ n6_ n7_ n8_; clear hb hbox hg; have hnb21 := NB131_124.out; have hnc21 := NB124_131.out; obtain ⟨hcz22_0, hcz22_1⟩ := bc2 BK131.out; obtain ⟨hfz22_0, hfz22_1⟩ := bf2 BK131.out; obtain ⟨Ao23, co23, eo23⟩ := Kd.R_slice HO_7.out; subst eo23))
         go_loopg [13, 42] k1 (fun kq v13 v42 w' => ∃ (x13_2 : Int) (x42_2 : Int), v13 = .int .i64 x13_2 ∧ v42 = .int .i64 x42_2 ∧ Aside0 (feed_Levels.l1 kq t126 x9_1 x10_1 x13_2 l0_1 (l0_1.length : Int) x36_1 t126 (t126.length : Int) x42_2 ((rd_T46 l0_1 x36_1).f0) ((rd_T46 l0_1 x36_1).f1) = some (r1, r2)) ∧ Aside0 (kq ≤ k1) ∧ Aside0 (Kd.R (Kd.int .i64) 3 w' w.heap.size (fun _ => True) (.slice Ao23 t126.length co23) t126) ∧ Aside0 (Kd.R k48 48 w' w.heap.size (fun _ => True) u9 x9_1) ∧ Aside0 (Kd.R (Kd.int .i64) 3 w' w.heap.size (fun _ => True) (.slice Ao23 t126.length co23) t126) ∧ Aside0 (w'.heap[gb124]? = some (.cells #[(.slice A0_0 l0_0.length c0_0), (.slice (some ad130) l0_1.length c0_1)] 25 (0, 0))) ∧ Aside0 (w'.heap[gb131]? = some (.cells #[.int .i64 ((rd_T46 l0_1 x36_1).f0), .int .i64 ((rd_T46 l0_1 x36_1).f1)] 46 (0, 0))) ∧ Aside0 (Below w.heap.size w w'))
         case atStart => exact ⟨(0), (0), (by first | rfl | (simp; done) | (simp [*]; done)), (by first | rfl | (simp; done) | (simp [*]; done)), H', ⟨Nat.le_refl _⟩, ⟨by (with_reducible repeat (first | apply Kd.R_alloc | apply Kd.R_drewN | apply Kd.R_drew)); exact Kd.R_mono (Kd.R_far (p := ⟨gb131, 1, none⟩) (Kd.R_far (p := ⟨gb131, 0, none⟩) (Kd.R_types HO_7.out BK131.out (by decide)) (fun _ hk => hk.2) (.int .i64 ((rd_T46 l0_1 x36_1).f0))) (fun _ hk => hk.2) (.int .i64 ((rd_T46 l0_1 x36_1).f1))) (fun _ hk => trivial)⟩, ⟨by (with_reducible repeat (first | apply Kd.R_alloc | apply Kd.R_drewN | apply Kd.R_drew)); exact Kd.R_mono (Kd.R_far (p := ⟨gb131, 1, none⟩) (Kd.R_far (p := ⟨gb131, 0, none⟩) (Kd.R_types HO_9.out BK131.out (by decide)) (fun _ hk => hk.2) (.int .i64 ((rd_T46 l0_1 x36_1).f0))) (fun _ hk => hk.2) (.int .i64 ((rd_T46 l0_1 x36_1).f1))) (fun _ hk => trivial)⟩, ⟨by (with_reducible repeat (first | apply Kd.R_alloc | apply Kd.R_drewN | apply Kd.R_drew)); exact Kd.R_mono (Kd.R_far (p := ⟨gb131, 1, none⟩) (Kd.R_far (p := ⟨gb131, 0, none⟩) (Kd.R_types HO_7.out BK131.out (by decide)) (fun _ hk => hk.2) (.int .i64 ((rd_T46 l0_1 x36_1).f0))) (fun _ hk => hk.2) (.int .i64 ((rd_T46 l0_1 x36_1).f1))) (fun _ hk => trivial)⟩, ⟨by (iterate 2 (with_reducible repeat (first | refine blk_drewN ?_ _ | refine blk_drew ?_ | refine blk_alloc ?_ _)); refine blk_far ?_ NB124_131.out _); exact bg BK124.out⟩, ⟨by exact pt2 (bg BK131.out)⟩, ⟨bs HB.out⟩⟩
         case round =>
          clear H'
          try clear c1
          try clear p1
          try clear q1
          try clear hx1
          try clear c2
          try clear p2
          try clear c4
          try clear c4b0
          try clear c4b1
          try clear c5
          try clear c5b0
          try clear c5b1
          try clear c5b2
          try clear c9
          try clear c10
          try clear c10b0
          try clear c10b1
          try clear p13
          try clear q13
          try clear hx13
          try clear c17
          try clear c17b0
          try clear c18
          try clear c18b0
          try clear c19
          try clear c19b0
          try clear c21
          try clear c23
          try clear hcz12_0 hcz12_1
          try clear hcz14_0 hcz14_1
          try clear hcz16_0 hcz16_1
          try clear hcz22_0 hcz22_1
          try clear hcz7_0 hcz7_1
          try clear hfz12_0 hfz12_1
          try clear hfz14_0 hfz14_1
          try clear hfz16_0 hfz16_1
          try clear hfz22_0 hfz22_1
          try clear hfz7_0 hfz7_1
          try clear hx130_0
          try clear hx130_1
          try clear p130
          try clear p2
          try clear q130
          obtain ⟨x13_2, x42_2, rfl, rfl, HA, HK2, HO_7, HO_9, HO_40, BK124, BK131, HB⟩ := hrel
          cases gk with
          | zero => exact absurd HA.out (by simp [feed_Levels.l1])
          | succ k2 =>
           have H := HA.out
           clear HA
           simp only [feed_Levels.l1] at H
           by_cases c24 : x42_2 < (t126.length : Int)
           ·
            rw [if_pos c24] at H
            have c24b0 : decide (x42_2 < (t126.length : Int)) = true := decide_eq_true c24
            clear c24
            by_cases c25 : 0 ≤ x42_2
            ·
             rw [if_pos c25] at H
             have c25b0 : decide (0 ≤ x42_2) = true := decide_eq_true c25
             clear c25
             by_cases c26 : x42_2 < (t126.length : Int)
             ·
              rw [if_pos c26] at H
              have c26b0 : decide (x42_2 < (t126.length : Int)) = true := decide_eq_true c26
              clear c26
              by_cases c27 : 0 ≤ (rd t126 x42_2)
              ·
               rw [if_pos c27] at H
               have c27b0 := eq_true c27
               have c27b1 : decide (0 ≤ (rd t126 x42_2)) = true := decide_eq_true c27
               clear c27
               obtain ⟨ji28, hji28⟩ : ∃ j_ : Int, (shr .i64 ((rd_T46 l0_1 x36_1).f0) (rd t126 x42_2)) = j_ := ⟨_, rfl⟩
               replace H : (feed_Levels.l1 k2 t126 x9_1 x10_1 (Go.bits .or .i64 x13_2 (shl .i64 (Go.bits .and .i64 (ji28) 1) x42_2)) l0_1 (l0_1.length : Int) x36_1 t126 (t126.length : Int) (wrap64 (x42_2 + 1)) ((rd_T46 l0_1 x36_1).f0) ((rd_T46 l0_1 x36_1).f1)) = some (r1, r2) := by first | (rw [hji28] at H; exact H) | (simp only [hji28] at H ⊢; exact H)
               have hji28_ : (((rd_T46 l0_1 x36_1).f0) / 2 ^ min (rd t126 x42_2).toNat 64) = ji28 := hji28
               have hji28z : (rd t126 x42_2) ≤ 64 → (((rd_T46 l0_1 x36_1).f0) / 2 ^ (rd t126 x42_2).toNat) = ji28 := shr_small hji28
               have c29b0 := eq_true (of_decide_eq_true (by first | (with_reducible assumption) | assumption) : 0 ≤ x42_2)
               obtain ⟨ji30, hji30⟩ : ∃ j_ : Int, (shl .i64 (Go.bits .and .i64 (ji28) 1) x42_2) = j_ := ⟨_, rfl⟩
               replace H : (feed_Levels.l1 k2 t126 x9_1 x10_1 (Go.bits .or .i64 x13_2 (ji30)) l0_1 (l0_1.length : Int) x36_1 t126 (t126.length : Int) (wrap64 (x42_2 + 1)) ((rd_T46 l0_1 x36_1).f0) ((rd_T46 l0_1 x36_1).f1)) = some (r1, r2) := by first | (rw [hji30] at H; exact H) | (simp only [hji30] at H ⊢; exact H)
               have hji30_ : (IntKind.i64.wrap ((Go.bits .and .i64 (ji28) 1) * 2 ^ min x42_2.toNat 64)) = ji30 := hji30
               have hji30z : x42_2 ≤ 64 → (IntKind.i64.wrap ((Go.bits .and .i64 (ji28) 1) * 2 ^ x42_2.toNat)) = ji30 := shl_small hji30
               have hji30y : (wrap64 ((Go.bits .and .i64 (ji28) 1) * 2 ^ min x42_2.toNat 64)) = ji30 := (i64_w _).symm.trans hji30_
               have hji30x : x42_2 ≤ 64 → (wrap64 ((Go.bits .and .i64 (ji28) 1) * 2 ^ x42_2.toNat)) = ji30 := fun h_ => (i64_w _).symm.trans (hji30z h_)
               have H' := Aside0.mk H
               clear H
               have p132 : 0 ≤ (x42_2 : Int) := of_decide_eq_true (by first | (with_reducible assumption) | assumption)
               have q132 : x42_2 < (t126.length : Int) := of_decide_eq_true (by first | (with_reducible assumption) | assumption)
               obtain ⟨ad132, e132, hx132_0⟩ := Kd.at_int (Kd.R_reads' HO_40.out).2.2 x42_2 p132 q132
               cases e132
               replace p132 := eq_true p132
               replace q132 := eq_true q132
               have hnb31 := NB131_124.out
               have hnc31 := NB124_131.out
               obtain ⟨hcz32_0, hcz32_1⟩ := bc2 BK131.out
               obtain ⟨hfz32_0, hfz32_1⟩ := bf2 BK131.out
               go_wp2
               go_roundg k2
               case measure => have := HK1.out; have := HK2.out; omega
               case rel => exact ⟨(Go.bits .or .i64 x13_2 (ji30)), (wrap64 (x42_2 + 1)), (by first | rfl | (simp; done) | (simp only [← hji30] <;> (first | rfl | simp)) | (simp [*]; done)), (by first | rfl | (simp; done) | (simp [*]; done)), H', ⟨by have := HK1.out; have := HK2.out; omega⟩, ⟨by (with_reducible repeat (first | apply Kd.R_alloc | apply Kd.R_drewN | apply Kd.R_drew)); exact HO_7.out⟩, ⟨by (with_reducible repeat (first | apply Kd.R_alloc | apply Kd.R_drewN | apply Kd.R_drew)); exact HO_9.out⟩, ⟨by (with_reducible repeat (first | apply Kd.R_alloc | apply Kd.R_drewN | apply Kd.R_drew)); exact HO_40.out⟩, ⟨bg BK124.out⟩, ⟨bg BK131.out⟩, ⟨bs HB.out⟩⟩
              ·
               rw [if_neg c27] at H
               exact absurd H (by simp)
             ·
              rw [if_neg c26] at H
              exact absurd H (by simp)
            ·
             rw [if_neg c25] at H
             exact absurd H (by simp)
           ·
            rw [if_neg c24] at H
            have c24b0 : decide (x42_2 < (t126.length : Int)) = false := decide_eq_false c24
            clear c24
            by_cases c33 : x9_1.length < 2199023255552
            ·
             rw [if_pos c33] at H
             have LMc33 := Aside0.mk c33
             clear c33
             obtain ⟨y133, hy133⟩ : ∃ y_ : List (S48), y_ = (x9_1 ++ [(⟨1, x10_1, wrap64 (x10_1 + ((rd_T46 l0_1 x36_1).f1)), x13_2, 0, (⟨#[]⟩ : ByteArray), 0⟩ : S48)]) := ⟨_, rfl⟩
             replace H : (feed_Levels.l0 k2 t126 y133 (wrap64 (x10_1 + ((rd_T46 l0_1 x36_1).f1))) l0_1 (l0_1.length : Int) (wrap64 (x36_1 + 1))) = some (r1, r2) := by first | (rw [hy133]; with_reducible exact H) | (have H2_ := (Option.bind_some _ _).symm.trans H; rw [hy133]; with_reducible exact H2_) | (have H2_ := (Option.bind_some _ _).symm.trans H; with_reducible exact H2_) | with_reducible exact H | (rw [hy133]; exact H) | exact H
             have Ny133 := Aside0.mk hy133
             clear hy133
             have H' := Aside0.mk H
             clear H
             have hnb34 := NB131_124.out
             have hnc34 := NB124_131.out
             obtain ⟨hcz35_0, hcz35_1⟩ := bc2 BK131.out
             obtain ⟨hfz35_0, hfz35_1⟩ := bf2 BK131.out
             go_wp2_with (first | ((with_reducible refine gate_builtin (b := .append) (xs := #[.tmp 57, .tmp 65]) rfl ?_); at_builtin; refine Kd.R_append k48 (w0 := w) w.heap.size rfl (.tmp 57) (.tmp 65) 26 48 (.agg #[(.int .i64 0), (.int .i64 0), (.int .i64 0), (.int .i64 0), (.int .i64 0), (.string ⟨#[]⟩), (.int .i64 0)]) 64 rfl Try.underlying26 info48 rfl (by decide) (by omega) u9 x9_1 (⟨1, x10_1, wrap64 (x10_1 + ((rd_T46 l0_1 x36_1).f1)), x13_2, 0, (⟨#[]⟩ : ByteArray), 0⟩ : S48) [.int .i64 1, .int .i64 x10_1, .int .i64 (wrap64 (x10_1 + ((rd_T46 l0_1 x36_1).f1))), .int .i64 x13_2, .int .i64 0, .string (⟨#[]⟩ : ByteArray), .int .i64 0] (fun _ => True) (fun _ => False) rfl rfl ?aP (fun _ hk => hk.elim) ?aF ?aO ?aB ?aS ?aL ?_; (case aP => exact k48_mkM _ _ _ (⟨1, x10_1, wrap64 (x10_1 + ((rd_T46 l0_1 x36_1).f1)), x13_2, 0, (⟨#[]⟩ : ByteArray), 0⟩ : S48)); (case aB => exact (bs HB.out)); (case aF => exact (fun _ _ => trivial)); (case aO => exact (rq HO_9.out)); (case aS => exact (below_size (bs HB.out))); (case aL => have := LMc33.out; omega); intro v134 w36 ho hb hg hat; rw [← Ny133.out] at ho; have n0_ := Aside0.mk (Kd.R_over' (rq HO_7.out) (Kd.R_typed (rq HO_9.out)) (by decide) hg); have n1_ := Aside0.mk (Kd.R_over' (rq HO_40.out) (Kd.R_typed (rq HO_9.out)) (by decide) hg); have n2_ := Aside0.mk (blk_grown (g := gb124) (o := .cells #[.slice A0_0 l0_0.length c0_0, .slice (some ad130) l0_1.length c0_1] 25 (0, 0)) (bg BK124.out) hg (Kd.R_ne HO_9.out BK124.out (by decide))); have n3_ := Aside0.mk (blk_grown (g := gb131) (o := .cells #[.int .i64 ((rd_T46 l0_1 x36_1).f0), .int .i64 ((rd_T46 l0_1 x36_1).f1)] 46 (0, 0)) (bg BK131.out) hg (Kd.R_ne HO_9.out BK131.out (by decide))); have n4_ := Aside0.mk (hb); have n5_ := Aside0.mk (ho); clear HO_7; clear HO_40; clear BK124; clear BK131; clear HB; clear HO_9; have HO_7 := n0_; have HO_40 := n1_; have BK124 := n2_; have BK131 := n3_; have HB := n4_; have HO135 := n5_; clear n0_ n1_ n2_ n3_ n4_ n5_; clear ho hb hg hat; obtain ⟨hcz37_0, hcz37_1⟩ := bc2 BK131.out; obtain ⟨hfz37_0, hfz37_1⟩ := bf2 BK131.out))
             go_roundg k2
             case measure => have := HK1.out; have := HK2.out; omega
             case rel => exact ⟨(y133), (wrap64 (x10_1 + ((rd_T46 l0_1 x36_1).f1))), (wrap64 (x36_1 + 1)), (by first | rfl | (simp; done) | (simp [*]; done)), (by first | rfl | (simp; done) | (simp [*]; done)), H', ⟨by have := HK1.out; have := HK2.out; omega⟩, ⟨by (with_reducible repeat (first | apply Kd.R_alloc | apply Kd.R_drewN | apply Kd.R_drew)); exact HO_7.out⟩, ⟨by (with_reducible repeat (first | apply Kd.R_alloc | apply Kd.R_drewN | apply Kd.R_drew)); exact HO135.out⟩, ⟨bg BK124.out⟩, ⟨bs HB.out⟩⟩
            ·
             rw [if_neg c33] at H
             exact absurd H (by simp)
        ·
         rw [if_neg c19] at H
         exact absurd H (by simp)
       ·
        rw [if_neg c18] at H
        exact absurd H (by simp)
      ·
       rw [if_neg c17] at H
       have c17b0 : decide (x36_1 < (l0_1.length : Int)) = false := decide_eq_false c17
       clear c17
       simp only [Option.some.injEq, Prod.mk.injEq] at H
       obtain ⟨rfl, rfl⟩ := H
       go_wp2
       go_ret2
       exact ⟨_, by first | rfl | (simp [errW_none, errW_some] <;> rfl) | (simp [*, errW_none, errW_some] <;> rfl), by (with_reducible repeat (first | apply Kd.R_alloc | apply Kd.R_drewN | apply Kd.R_drew)); exact HO_9.out, bs HB.out⟩
   ·
    rw [if_neg c10] at H
    have c10b0 : (t129 == 0) = false := beq_eq_false_iff_ne.mpr c10
    have c10b1 : (t129 != 0) = true := bne_iff_ne.mpr c10
    simp only [Option.some.injEq, Prod.mk.injEq] at H
    obtain ⟨rfl, rfl⟩ := H
    go_enter Try.func9, Try.ntmps9
    go_wp2_with (first | ((with_reducible refine gate_dst (N := 2) rfl ?_); refine box_event ?hg (N := 2) ?hd (cs := #[.slice A0_0 l0_0.length c0_0, .slice A0_1 l0_1.length c0_1]) (t := 25) ?hr ?_; (case hd => rfl); (case hg => rfl); (case hr => first | (go_simp; done) | (go_simp; rfl)); intro gb124 hg w38 hbox hb; have n0_ := Aside0.mk (below_step (bs HB.out) hb); have n1_ := Aside0.mk (hbox); have n2_ := Aside0.mk ((by rw [hg]; exact (below_size (bs HB.out)) : w.heap.size ≤ gb124)); have n3_ := n2_; clear HB; have HB := n0_; have BK124 := n1_; have GW124 := n2_; have GE124 := n3_; clear n0_ n1_ n2_ n3_; clear hb hbox hg; obtain ⟨hcz39_0, hcz39_1⟩ := bc2 BK124.out; obtain ⟨hfz39_0, hfz39_1⟩ := bf2 BK124.out) | ((with_reducible refine gate_callee (f := 23) rfl ?_); refine goesL_ (some 17) rfl rfl Try.func23 (by kernel_rfl) rfl #[.agg #[.slice A0_0 l0_0.length c0_0, .slice A0_1 l0_1.length c0_1]] rfl (by (try simp only [List.map_toArray, List.map_cons, List.map_nil]); first | done | rfl | (simp only [List.length_drop, List.length_take]; rfl)) ?_; (with_reducible refine (capture_Check.calls k _ _ l0_0 _ _ l0_1 t125 _ ?side1 ?side2 ?side3 ?side4 A3.out).mono ?_); (case side1 => repeat (first | exact (Kd.C_below HR0_0.out HB.out) | (with_reducible refine Kd.C_alloc ?_ _) | (with_reducible refine Kd.C_drewN ?_ _) | (with_reducible refine Kd.C_drew ?_))); (case side2 => exact HC0_0.out); (case side3 => repeat (first | exact (Kd.C_below HR0_1.out HB.out) | (with_reducible refine Kd.C_alloc ?_ _) | (with_reducible refine Kd.C_drewN ?_ _) | (with_reducible refine Kd.C_drew ?_))); (case side4 => exact HC0_1.out); rintro e w40 ⟨rfl, hb⟩; refine ⟨_, rfl, ?_⟩; have n0_ := Aside0.mk (blk_below (bg BK124.out) hb); have n1_ := Aside0.mk (below_step (bs HB.out) hb); clear BK124; clear HB; have BK124 := n0_; have HB := n1_; clear n0_ n1_; (try clear hb); (try clear hb2); (try clear hk); (try clear hi); obtain ⟨hcz41_0, hcz41_1⟩ := bc2 BK124.out; obtain ⟨hfz41_0, hfz41_1⟩ := bf2 BK124.out) | ((with_reducible refine gate_callee (f := 24) rfl ?_); refine goesL_ (some 27) rfl rfl Try.func24 (by kernel_rfl) rfl #[.agg #[.slice A0_0 l0_0.length c0_0, .slice A0_1 l0_1.length c0_1], .slice A1 l1.length c1] rfl (by (try simp only [List.map_toArray, List.map_cons, List.map_nil]); first | done | rfl | (simp only [List.length_drop, List.length_take]; rfl)) ?_; (with_reducible refine (feed_places.calls k _ _ l0_0 _ _ l0_1 _ _ l1 t126 t129 _ ?side1 ?side2 ?side3 ?side4 ?side5 ?side6 A9.out).mono ?_); (case side1 => repeat (first | exact (Kd.C_below HR0_0.out HB.out) | (with_reducible refine Kd.C_alloc ?_ _) | (with_reducible refine Kd.C_drewN ?_ _) | (with_reducible refine Kd.C_drew ?_))); (case side2 => exact HC0_0.out); (case side3 => repeat (first | exact (Kd.C_below HR0_1.out HB.out) | (with_reducible refine Kd.C_alloc ?_ _) | (with_reducible refine Kd.C_drewN ?_ _) | (with_reducible refine Kd.C_drew ?_))); (case side4 => exact HC0_1.out); (case side5 => repeat (first | exact (Kd.C_below HR1.out HB.out) | (with_reducible refine Kd.C_alloc ?_ _) | (with_reducible refine Kd.C_drewN ?_ _) | (with_reducible refine Kd.C_drew ?_))); (case side6 => exact HC1.out); rintro e w42 ⟨v127, rfl, ho0, hb⟩; refine ⟨_, rfl, ?_⟩; have n0_ := Aside0.mk (Kd.R_lower ho0 (below_size (bs HB.out))); have n1_ := Aside0.mk (blk_below (bg BK124.out) hb); have n2_ := Aside0.mk (below_step (bs HB.out) hb); clear BK124; clear HB; have HO128 := n0_; have BK124 := n1_; have HB := n2_; clear n0_ n1_ n2_; (try clear hb); (try clear hb2); (try clear hk); (try clear hi); (try clear ho0)))
    go_ret2
    exact ⟨_, by first | rfl | (simp [errW_none, errW_some] <;> rfl) | (simp [*, errW_none, errW_some] <;> rfl), by first | exact Kd.R_nil _ _ _ _ _ | exact Kd.N_nil _ _ _ _ _ | exact Kd.V_nil _ _ _ _ _ | exact Kd.Q_nil _ _ _ _ _ | exact Kd.S_nil _ _ _ _ _, bs HB.out⟩
 ·
  rw [if_neg c4] at H
  have c4b0 : (t125 == 0) = false := beq_eq_false_iff_ne.mpr c4
  have c4b1 : (t125 != 0) = true := bne_iff_ne.mpr c4
  simp only [Option.some.injEq, Prod.mk.injEq] at H
  obtain ⟨rfl, rfl⟩ := H
  go_enter Try.func9, Try.ntmps9
  go_wp2_with (first | ((with_reducible refine gate_dst (N := 2) rfl ?_); refine box_event ?hg (N := 2) ?hd (cs := #[.slice A0_0 l0_0.length c0_0, .slice A0_1 l0_1.length c0_1]) (t := 25) ?hr ?_; (case hd => rfl); (case hg => rfl); (case hr => first | (go_simp; done) | (go_simp; rfl)); intro gb124 hg w43 hbox hb; have n0_ := Aside0.mk (below_step (bs HB.out) hb); have n1_ := Aside0.mk (hbox); have n2_ := Aside0.mk ((by rw [hg]; exact (below_size (bs HB.out)) : w.heap.size ≤ gb124)); have n3_ := n2_; clear HB; have HB := n0_; have BK124 := n1_; have GW124 := n2_; have GE124 := n3_; clear n0_ n1_ n2_ n3_; clear hb hbox hg; obtain ⟨hcz44_0, hcz44_1⟩ := bc2 BK124.out; obtain ⟨hfz44_0, hfz44_1⟩ := bf2 BK124.out) | ((with_reducible refine gate_callee (f := 23) rfl ?_); refine goesL_ (some 17) rfl rfl Try.func23 (by kernel_rfl) rfl #[.agg #[.slice A0_0 l0_0.length c0_0, .slice A0_1 l0_1.length c0_1]] rfl (by (try simp only [List.map_toArray, List.map_cons, List.map_nil]); first | done | rfl | (simp only [List.length_drop, List.length_take]; rfl)) ?_; (with_reducible refine (capture_Check.calls k _ _ l0_0 _ _ l0_1 t125 _ ?side1 ?side2 ?side3 ?side4 A3.out).mono ?_); (case side1 => repeat (first | exact (Kd.C_below HR0_0.out HB.out) | (with_reducible refine Kd.C_alloc ?_ _) | (with_reducible refine Kd.C_drewN ?_ _) | (with_reducible refine Kd.C_drew ?_))); (case side2 => exact HC0_0.out); (case side3 => repeat (first | exact (Kd.C_below HR0_1.out HB.out) | (with_reducible refine Kd.C_alloc ?_ _) | (with_reducible refine Kd.C_drewN ?_ _) | (with_reducible refine Kd.C_drew ?_))); (case side4 => exact HC0_1.out); rintro e w45 ⟨rfl, hb⟩; refine ⟨_, rfl, ?_⟩; have n0_ := Aside0.mk (blk_below (bg BK124.out) hb); have n1_ := Aside0.mk (below_step (bs HB.out) hb); clear BK124; clear HB; have BK124 := n0_; have HB := n1_; clear n0_ n1_; (try clear hb); (try clear hb2); (try clear hk); (try clear hi)))
  go_ret2
  exact ⟨_, by first | rfl | (simp [errW_none, errW_some] <;> rfl) | (simp [*, errW_none, errW_some] <;> rfl), by first | exact Kd.R_nil _ _ _ _ _ | exact Kd.N_nil _ _ _ _ _ | exact Kd.V_nil _ _ _ _ _ | exact Kd.Q_nil _ _ _ _ _ | exact Kd.S_nil _ _ _ _ _, bs HB.out⟩

end Go.Proofs.Ytioedeglgljblaa.H
