-- Printed by wip/hprint.py (this project's own driver of the kit's print) out of the translation; Lean checks it.
import Derived.Test.YtgdjiphljadlcaaH0
import Derived.Test.YtgdjiphljadlcaaH5
import Derived.Test.YtgdjiphljadlcaaH7
namespace Go.Proofs.Ytgdjiphljadlcaa.H
open Go.RowKit Go.Proofs.YtgdjiphljadlcaaW.PrintWords Go.Proofs.YtgdjiphljadlcaaW.PrintLast Go.Proofs.YtgdjiphljadlcaaW.PrintMore
attribute [local go_sem] max2_int min2_int max_two min_two max_three min_three max_four min_four   -- for this text's walks alone
set_option linter.unusedVariables false
set_option linter.unusedSimpArgs false

/-! ### trig_wrong: function 53 -/
mutual
def trig_wrong.l0 : Nat → List (S64) → Int → Int → ByteArray → List (S64) → Option (Int)
 | 0, _, _, _, _, _ => none
 | k + 1, x25, x26, x27, x111000, x111001 => if x27 < x26 then (if 0 ≤ x27 then (if x27 < (x25.length : Int) then ((trig_wrongStep.f k ((rd_T64 x25 x27).f0.f0) ((rd_T64 x25 x27).f0.f1) ((rd_T64 x25 x27).f0.f2) ((rd_T64 x25 x27).f0.f3) ((rd_T64 x25 x27).f0.f4) ((rd_T64 x25 x27).f1) ((rd_T64 x25 x27).f2) ((rd_T64 x25 x27).f3) ((rd_T64 x25 x27).f4.f0) ((rd_T64 x25 x27).f4.f1) ((rd_T64 x25 x27).f4.f2) ((rd_T64 x25 x27).f4.f3) ((rd_T64 x25 x27).f4.f4)).bind fun t114 => (if t114 = 0 then (trig_wrong.l0 k x25 x26 (wrap64 (x27 + 1)) x111000 x111001) else (some t114))) else (none)) else (none)) else (trig_wrong.l1 k 32 x111001 (x111001.length : Int) 0)
def trig_wrong.l1 : Nat → Int → List (S64) → Int → Int → Option (Int)
 | 0, _, _, _, _ => none
 | k + 1, x6, x38, x39, x40 => if x40 < x39 then (if 0 ≤ x40 then (if x40 < (x38.length : Int) then (if ((rd_T64 x38 x40).f1) > x6 then (some 6) else (trig_wrong.l1 k (wrap64 (x6 - ((rd_T64 x38 x40).f1))) x38 x39 (wrap64 (x40 + 1)))) else (none)) else (none)) else (some 0)
end
def trig_wrong.f (k : Nat) (a0_0 : ByteArray) (l0_1 : List (S64)) : Option (Int) := (lex_Name.f k a0_0).bind fun t111 => (if t111 = true then (if (l0_1.length : Int) = 0 then (some 1) else (if (l0_1.length : Int) > 32 then (some 6) else (trig_wrong.l0 k l0_1 (l0_1.length : Int) 0 a0_0 l0_1))) else (some 4))
set_option maxHeartbeats 8000000 in
set_option maxRecDepth 100000 in
theorem trig_wrong.calls (k : Nat) (a0_0 : ByteArray) (A0_1 : Option Addr) (c0_1 : Nat) (l0_1 : List (S64)) (r : Int) (w : World) (hr0_1 : Kd.C k64 w A0_1 l0_1.length l0_1) (hc0_1 : l0_1.length ≤ c0_1) (h : trig_wrong.f k a0_0 l0_1 = some r) :
  Calls Try.prog 53 #[.agg #[.string a0_0, .slice A0_1 l0_1.length c0_1]] w fun e w' => e = .returned (.int .i64 r) ∧ Below w.heap.size w w' := by
 have hu24 := Try.underlying24
 have hu64 := Try.underlying64
 have HR0_1 := Aside0.mk hr0_1
 have HC0_1 := Aside0.mk hc0_1
 clear hr0_1 hc0_1
 have HB := Aside0.mk (Below.refl w.heap.size w)
 have H : ((lex_Name.f k a0_0).bind fun t111 => (if t111 = true then (if (l0_1.length : Int) = 0 then (some 1) else (if (l0_1.length : Int) > 32 then (some 6) else (trig_wrong.l0 k l0_1 (l0_1.length : Int) 0 a0_0 l0_1))) else (some 4))) = some r := h
 clear h
 replace H := Option.bind_eq_some_iff.mp H
 obtain ⟨t111, A20, H⟩ := H
 replace H : (if t111 = true then (if (l0_1.length : Int) = 0 then (some 1) else (if (l0_1.length : Int) > 32 then (some 6) else (trig_wrong.l0 k l0_1 (l0_1.length : Int) 0 a0_0 l0_1))) else (some 4)) = some r := H
 have A2 := Aside0.mk A20
 clear A20
 by_cases c3 : t111 = true
 ·
  subst c3
  have H1 : (if (l0_1.length : Int) = 0 then (some 1) else (if (l0_1.length : Int) > 32 then (some 6) else (trig_wrong.l0 k l0_1 (l0_1.length : Int) 0 a0_0 l0_1))) = some r := by rw [if_pos rfl] at H; exact H
  clear H
  have H := H1
  clear H1
  by_cases c4 : (l0_1.length : Int) = 0
  ·
   rw [if_pos c4] at H
   have c4b0 : ((l0_1.length : Int) == 0) = true := beq_iff_eq.mpr c4
   have c4b1 : ((l0_1.length : Int) != 0) = false := bne_eq_false_iff_eq.mpr c4
   clear c4
   obtain rfl := Option.some.inj H
   go_enter Try.func53, Try.ntmps53
   go_wp2_with (first | ((with_reducible refine gate_dst (N := 1) rfl ?_); refine box_event ?hg (N := 1) ?hd (cs := #[.string a0_0, .slice A0_1 l0_1.length c0_1]) (t := 24) ?hr ?_; (case hd => rfl); (case hg => rfl); (case hr => first | (go_simp; done) | (go_simp; rfl)); intro gb110 hg w5 hbox hb; have n0_ := Aside0.mk (below_step (bs HB.out) hb); have n1_ := Aside0.mk (hbox); have n2_ := Aside0.mk ((by rw [hg]; exact (below_size (bs HB.out)) : w.heap.size ≤ gb110)); have n3_ := n2_; clear HB; have HB := n0_; have BK110 := n1_; have GW110 := n2_; have GE110 := n3_; clear n0_ n1_ n2_ n3_; clear hb hbox hg; obtain ⟨hcz6_0, hcz6_1⟩ := bc2 BK110.out; obtain ⟨hfz6_0, hfz6_1⟩ := bf2 BK110.out) | ((with_reducible refine gate_callee (f := 73) rfl ?_); refine goesL_ (some 12) rfl rfl Try.func73 (by kernel_rfl) rfl #[.string a0_0] rfl (by (try simp only [List.map_toArray, List.map_cons, List.map_nil]); first | done | rfl | (simp only [List.length_drop, List.length_take]; rfl)) ?_; (with_reducible refine (lex_Name.calls k a0_0 true _ A2.out).mono ?_); rintro e w' ⟨rfl, ⟨nd, rfl⟩⟩; refine ⟨_, rfl, ?_⟩))
   go_ret
   exact ⟨by first | rfl | (simp [errW_none, errW_some] <;> rfl) | (simp [*, errW_none, errW_some] <;> rfl), bs HB.out⟩
  ·
   rw [if_neg c4] at H
   have c4b0 : ((l0_1.length : Int) == 0) = false := beq_eq_false_iff_ne.mpr c4
   have c4b1 : ((l0_1.length : Int) != 0) = true := bne_iff_ne.mpr c4
   have c4b2 : ¬ (l0_1 = []) := fun h_ => c4 (by rw [h_]; rfl)
   by_cases c7 : (l0_1.length : Int) > 32
   ·
    rw [if_pos c7] at H
    have c7b0 : decide (32 < (l0_1.length : Int)) = true := decide_eq_true c7
    have c7b1 : decide (32 < l0_1.length) = true := decide_eq_true (by omega)
    clear c7
    obtain rfl := Option.some.inj H
    go_enter Try.func53, Try.ntmps53
    go_wp2_with (first | ((with_reducible refine gate_dst (N := 1) rfl ?_); refine box_event ?hg (N := 1) ?hd (cs := #[.string a0_0, .slice A0_1 l0_1.length c0_1]) (t := 24) ?hr ?_; (case hd => rfl); (case hg => rfl); (case hr => first | (go_simp; done) | (go_simp; rfl)); intro gb110 hg w8 hbox hb; have n0_ := Aside0.mk (below_step (bs HB.out) hb); have n1_ := Aside0.mk (hbox); have n2_ := Aside0.mk ((by rw [hg]; exact (below_size (bs HB.out)) : w.heap.size ≤ gb110)); have n3_ := n2_; clear HB; have HB := n0_; have BK110 := n1_; have GW110 := n2_; have GE110 := n3_; clear n0_ n1_ n2_ n3_; clear hb hbox hg; obtain ⟨hcz9_0, hcz9_1⟩ := bc2 BK110.out; obtain ⟨hfz9_0, hfz9_1⟩ := bf2 BK110.out) | ((with_reducible refine gate_callee (f := 73) rfl ?_); refine goesL_ (some 12) rfl rfl Try.func73 (by kernel_rfl) rfl #[.string a0_0] rfl (by (try simp only [List.map_toArray, List.map_cons, List.map_nil]); first | done | rfl | (simp only [List.length_drop, List.length_take]; rfl)) ?_; (with_reducible refine (lex_Name.calls k a0_0 true _ A2.out).mono ?_); rintro e w' ⟨rfl, ⟨nd, rfl⟩⟩; refine ⟨_, rfl, ?_⟩))
    go_ret
    exact ⟨by first | rfl | (simp [errW_none, errW_some] <;> rfl) | (simp [*, errW_none, errW_some] <;> rfl), bs HB.out⟩
   ·
    rw [if_neg c7] at H
    have c7b0 : decide (32 < (l0_1.length : Int)) = false := decide_eq_false c7
    have c7b1 : decide (32 < l0_1.length) = false := decide_eq_false (by omega)
    clear c7
    have H' := Aside0.mk H
    clear H
    go_enter Try.func53, Try.ntmps53
    go_wp2_with (first | ((with_reducible refine gate_dst (N := 1) rfl ?_); refine box_event ?hg (N := 1) ?hd (cs := #[.string a0_0, .slice A0_1 l0_1.length c0_1]) (t := 24) ?hr ?_; (case hd => rfl); (case hg => rfl); (case hr => first | (go_simp; done) | (go_simp; rfl)); intro gb110 hg w10 hbox hb; have n0_ := Aside0.mk (below_step (bs HB.out) hb); have n1_ := Aside0.mk (hbox); have n2_ := Aside0.mk ((by rw [hg]; exact (below_size (bs HB.out)) : w.heap.size ≤ gb110)); have n3_ := n2_; clear HB; have HB := n0_; have BK110 := n1_; have GW110 := n2_; have GE110 := n3_; clear n0_ n1_ n2_ n3_; clear hb hbox hg; obtain ⟨hcz11_0, hcz11_1⟩ := bc2 BK110.out; obtain ⟨hfz11_0, hfz11_1⟩ := bf2 BK110.out) | ((with_reducible refine gate_callee (f := 73) rfl ?_); refine goesL_ (some 12) rfl rfl Try.func73 (by kernel_rfl) rfl #[.string a0_0] rfl (by (try simp only [List.map_toArray, List.map_cons, List.map_nil]); first | done | rfl | (simp only [List.length_drop, List.length_take]; rfl)) ?_; (with_reducible refine (lex_Name.calls k a0_0 true _ A2.out).mono ?_); rintro e w' ⟨rfl, ⟨nd, rfl⟩⟩; refine ⟨_, rfl, ?_⟩))
    go_loopg [27] k (fun kq v27 w' => ∃ (x27_1 : Int), v27 = .int .i64 x27_1 ∧ Aside0 (trig_wrong.l0 kq l0_1 (l0_1.length : Int) x27_1 a0_0 l0_1 = some r) ∧ Aside0 (kq ≤ k) ∧ Aside0 (w'.heap[gb110]? = some (.cells #[.string a0_0, (.slice A0_1 l0_1.length c0_1)] 24 (0, 0))) ∧ Aside0 (Below w.heap.size w w'))
    case atStart => exact ⟨(0), (by first | rfl | (simp; done) | (simp [*]; done)), H', ⟨Nat.le_refl _⟩, ⟨bg BK110.out⟩, ⟨bs HB.out⟩⟩
    case round =>
     clear H'
     try clear p2
     try clear c3
     try clear c4
     try clear c4b0
     try clear c4b1
     try clear c4b2
     try clear c5
     try clear c7
     try clear c7b0
     try clear c7b1
     try clear hcz11_0 hcz11_1
     try clear hcz6_0 hcz6_1
     try clear hcz9_0 hcz9_1
     try clear hfz11_0 hfz11_1
     try clear hfz6_0 hfz6_1
     try clear hfz9_0 hfz9_1
     obtain ⟨x27_1, rfl, HA, HK1, BK110, HB⟩ := hrel
     cases gk with
     | zero => exact absurd HA.out (by simp [trig_wrong.l0])
     | succ k1 =>
      have H := HA.out
      clear HA
      simp only [trig_wrong.l0] at H
      by_cases c12 : x27_1 < (l0_1.length : Int)
      ·
       rw [if_pos c12] at H
       have c12b0 : decide (x27_1 < (l0_1.length : Int)) = true := decide_eq_true c12
       clear c12
       by_cases c13 : 0 ≤ x27_1
       ·
        rw [if_pos c13] at H
        have c13b0 : decide (0 ≤ x27_1) = true := decide_eq_true c13
        clear c13
        by_cases c14 : x27_1 < (l0_1.length : Int)
        ·
         rw [if_pos c14] at H
         have c14b0 : decide (x27_1 < (l0_1.length : Int)) = true := decide_eq_true c14
         clear c14
         replace H := Option.bind_eq_some_iff.mp H
         obtain ⟨t114, A150, H⟩ := H
         replace H : (if t114 = 0 then (trig_wrong.l0 k1 l0_1 (l0_1.length : Int) (wrap64 (x27_1 + 1)) a0_0 l0_1) else (some t114)) = some r := H
         have A15 := Aside0.mk A150
         clear A150
         by_cases c16 : t114 = 0
         ·
          rw [if_pos c16] at H
          have c16b0 : (t114 == 0) = true := beq_iff_eq.mpr c16
          have c16b1 : (t114 != 0) = false := bne_eq_false_iff_eq.mpr c16
          clear c16
          have H' := Aside0.mk H
          clear H
          have p112 : 0 ≤ (x27_1 : Int) := of_decide_eq_true (by first | (with_reducible assumption) | assumption)
          have q112 : x27_1 < (l0_1.length : Int) := of_decide_eq_true (by first | (with_reducible assumption) | assumption)
          obtain ⟨ad112, e112, hx112_0, hx112_1, hx112_2, hx112_3, hx112_4, hx112_5, hx112_6, hx112_7, hx112_8, hx112_9, hx112_10, hx112_11, hx112_12⟩ := at_T64 HR0_1.out x27_1 p112 q112
          cases e112
          replace hx112_0 := pw_cell_below HB.out hx112_0
          replace hx112_1 := pw_cell_below HB.out hx112_1
          replace hx112_2 := pw_cell_below HB.out hx112_2
          replace hx112_3 := pw_cell_below HB.out hx112_3
          replace hx112_4 := pw_cell_below HB.out hx112_4
          replace hx112_5 := pw_cell_below HB.out hx112_5
          replace hx112_6 := pw_cell_below HB.out hx112_6
          replace hx112_7 := pw_cell_below HB.out hx112_7
          replace hx112_8 := pw_cell_below HB.out hx112_8
          replace hx112_9 := pw_cell_below HB.out hx112_9
          replace hx112_10 := pw_cell_below HB.out hx112_10
          replace hx112_11 := pw_cell_below HB.out hx112_11
          replace hx112_12 := pw_cell_below HB.out hx112_12
          replace p112 := eq_true p112
          replace q112 := eq_true q112
          go_wp2_with (first | ((with_reducible refine gate_dst (N := 4) rfl ?_); refine box_event ?hg (N := 4) ?hd (cs := #[.string (⟨#[]⟩ : ByteArray), .int .i64 0, .int .i64 0, .int .i64 0, .int .i64 0, .int .i64 0, .int .i64 0, .bool false, .string (⟨#[]⟩ : ByteArray), .int .i64 0, .int .i64 0, .int .i64 0, .int .i64 0]) (t := 64) ?hr ?_; (case hd => rfl); (case hg => rfl); (case hr => first | (go_simp; done) | (go_simp; rfl)); intro gb113 hg w17 hbox hb; have n0_ := Aside0.mk (blk_below (bg BK110.out) hb); have n1_ := Aside0.mk (below_step (bs HB.out) hb); have n2_ := Aside0.mk (hbox); have n3_ := Aside0.mk ((by rw [hg]; exact (below_size (bs HB.out)) : w.heap.size ≤ gb113)); have n4_ := n3_; have n5_ := Aside0.mk ((by rw [hg]; exact Nat.ne_of_lt (blk_lt (bg BK110.out)) : gb110 ≠ gb113)); have n6_ := Aside0.mk ((by rw [hg]; exact Nat.ne_of_gt (blk_lt (bg BK110.out)) : gb113 ≠ gb110)); clear BK110; clear HB; have BK110 := n0_; have HB := n1_; have BK113 := n2_; have GW113 := n3_; have GE113 := n4_; have NB110_113 := n5_; have NB113_110 := n6_; clear n0_ n1_ n2_ n3_ n4_ n5_ n6_; clear hb hbox hg; have hnb18 := NB113_110.out; have hnc18 := NB110_113.out; obtain ⟨hcz19_0, hcz19_1, hcz19_2, hcz19_3, hcz19_4, hcz19_5, hcz19_6, hcz19_7, hcz19_8, hcz19_9, hcz19_10, hcz19_11, hcz19_12⟩ := bc13 BK113.out; obtain ⟨hfz19_0, hfz19_1, hfz19_2, hfz19_3, hfz19_4, hfz19_5, hfz19_6, hfz19_7, hfz19_8, hfz19_9, hfz19_10, hfz19_11, hfz19_12⟩ := bf13 BK113.out) | ((with_reducible refine gate_callee (f := 74) rfl ?_); refine goesL_ (some 32) rfl rfl Try.func74 (by kernel_rfl) rfl #[.agg #[.string ((rd_T64 l0_1 x27_1).f0.f0), .int .i64 ((rd_T64 l0_1 x27_1).f0.f1), .int .i64 ((rd_T64 l0_1 x27_1).f0.f2), .int .i64 ((rd_T64 l0_1 x27_1).f0.f3), .int .i64 ((rd_T64 l0_1 x27_1).f0.f4), .int .i64 ((rd_T64 l0_1 x27_1).f1), .int .i64 ((rd_T64 l0_1 x27_1).f2), .bool ((rd_T64 l0_1 x27_1).f3), .string ((rd_T64 l0_1 x27_1).f4.f0), .int .i64 ((rd_T64 l0_1 x27_1).f4.f1), .int .i64 ((rd_T64 l0_1 x27_1).f4.f2), .int .i64 ((rd_T64 l0_1 x27_1).f4.f3), .int .i64 ((rd_T64 l0_1 x27_1).f4.f4)]] rfl (by (try simp only [List.map_toArray, List.map_cons, List.map_nil]); first | done | rfl | (simp only [List.length_drop, List.length_take]; rfl)) ?_; (with_reducible refine (trig_wrongStep.calls k1 ((rd_T64 l0_1 x27_1).f0.f0) ((rd_T64 l0_1 x27_1).f0.f1) ((rd_T64 l0_1 x27_1).f0.f2) ((rd_T64 l0_1 x27_1).f0.f3) ((rd_T64 l0_1 x27_1).f0.f4) ((rd_T64 l0_1 x27_1).f1) ((rd_T64 l0_1 x27_1).f2) ((rd_T64 l0_1 x27_1).f3) ((rd_T64 l0_1 x27_1).f4.f0) ((rd_T64 l0_1 x27_1).f4.f1) ((rd_T64 l0_1 x27_1).f4.f2) ((rd_T64 l0_1 x27_1).f4.f3) ((rd_T64 l0_1 x27_1).f4.f4) t114 _ A15.out).mono ?_); rintro e w20 ⟨rfl, hb⟩; refine ⟨_, rfl, ?_⟩; have n0_ := Aside0.mk (blk_below (g := gb110) (o := .cells #[.string a0_0, .slice (some ad112) l0_1.length c0_1] 24 (0, 0)) (by (iterate 13 (with_reducible repeat (first | refine blk_drewN ?_ _ | refine blk_drew ?_ | refine blk_alloc ?_ _)); refine blk_far ?_ NB110_113.out _); exact bg BK110.out) hb); have n1_ := Aside0.mk (blk_below (g := gb113) (o := .cells #[.string ((rd_T64 l0_1 x27_1).f0.f0), .int .i64 ((rd_T64 l0_1 x27_1).f0.f1), .int .i64 ((rd_T64 l0_1 x27_1).f0.f2), .int .i64 ((rd_T64 l0_1 x27_1).f0.f3), .int .i64 ((rd_T64 l0_1 x27_1).f0.f4), .int .i64 ((rd_T64 l0_1 x27_1).f1), .int .i64 ((rd_T64 l0_1 x27_1).f2), .bool ((rd_T64 l0_1 x27_1).f3), .string ((rd_T64 l0_1 x27_1).f4.f0), .int .i64 ((rd_T64 l0_1 x27_1).f4.f1), .int .i64 ((rd_T64 l0_1 x27_1).f4.f2), .int .i64 ((rd_T64 l0_1 x27_1).f4.f3), .int .i64 ((rd_T64 l0_1 x27_1).f4.f4)] 64 (0, 0)) (by exact pt13 (bg BK113.out)) hb); have n2_ := Aside0.mk (below_step (bs HB.out) hb); clear BK110; clear BK113; clear HB; have BK110 := n0_; have BK113 := n1_; have HB := n2_; clear n0_ n1_ n2_; (try clear hb); (try clear hb2); (try clear hk); (try clear hi)))
          go_roundg k1
          case measure => have := HK1.out; omega
          case rel => exact ⟨(wrap64 (x27_1 + 1)), (by first | rfl | (simp; done) | (simp [*]; done)), H', ⟨by have := HK1.out; omega⟩, ⟨bg BK110.out⟩, ⟨bs HB.out⟩⟩
         ·
          rw [if_neg c16] at H
          have c16b0 : (t114 == 0) = false := beq_eq_false_iff_ne.mpr c16
          have c16b1 : (t114 != 0) = true := bne_iff_ne.mpr c16
          obtain rfl := Option.some.inj H
          have p112 : 0 ≤ (x27_1 : Int) := of_decide_eq_true (by first | (with_reducible assumption) | assumption)
          have q112 : x27_1 < (l0_1.length : Int) := of_decide_eq_true (by first | (with_reducible assumption) | assumption)
          obtain ⟨ad112, e112, hx112_0, hx112_1, hx112_2, hx112_3, hx112_4, hx112_5, hx112_6, hx112_7, hx112_8, hx112_9, hx112_10, hx112_11, hx112_12⟩ := at_T64 HR0_1.out x27_1 p112 q112
          cases e112
          replace hx112_0 := pw_cell_below HB.out hx112_0
          replace hx112_1 := pw_cell_below HB.out hx112_1
          replace hx112_2 := pw_cell_below HB.out hx112_2
          replace hx112_3 := pw_cell_below HB.out hx112_3
          replace hx112_4 := pw_cell_below HB.out hx112_4
          replace hx112_5 := pw_cell_below HB.out hx112_5
          replace hx112_6 := pw_cell_below HB.out hx112_6
          replace hx112_7 := pw_cell_below HB.out hx112_7
          replace hx112_8 := pw_cell_below HB.out hx112_8
          replace hx112_9 := pw_cell_below HB.out hx112_9
          replace hx112_10 := pw_cell_below HB.out hx112_10
          replace hx112_11 := pw_cell_below HB.out hx112_11
          replace hx112_12 := pw_cell_below HB.out hx112_12
          replace p112 := eq_true p112
          replace q112 := eq_true q112
          go_wp2_with (first | ((with_reducible refine gate_dst (N := 4) rfl ?_); refine box_event ?hg (N := 4) ?hd (cs := #[.string (⟨#[]⟩ : ByteArray), .int .i64 0, .int .i64 0, .int .i64 0, .int .i64 0, .int .i64 0, .int .i64 0, .bool false, .string (⟨#[]⟩ : ByteArray), .int .i64 0, .int .i64 0, .int .i64 0, .int .i64 0]) (t := 64) ?hr ?_; (case hd => rfl); (case hg => rfl); (case hr => first | (go_simp; done) | (go_simp; rfl)); intro gb113 hg w21 hbox hb; have n0_ := Aside0.mk (blk_below (bg BK110.out) hb); have n1_ := Aside0.mk (below_step (bs HB.out) hb); have n2_ := Aside0.mk (hbox); have n3_ := Aside0.mk ((by rw [hg]; exact (below_size (bs HB.out)) : w.heap.size ≤ gb113)); have n4_ := n3_; have n5_ := Aside0.mk ((by rw [hg]; exact Nat.ne_of_lt (blk_lt (bg BK110.out)) : gb110 ≠ gb113)); have n6_ := Aside0.mk ((by rw [hg]; exact Nat.ne_of_gt (blk_lt (bg BK110.out)) : gb113 ≠ gb110)); clear BK110; clear HB; have BK110 := n0_; have HB := n1_; have BK113 := n2_; have GW113 := n3_; have GE113 := n4_; have NB110_113 := n5_; have NB113_110 := n6_; clear n0_ n1_ n2_ n3_ n4_ n5_ n6_; clear hb hbox hg; have hnb22 := NB113_110.out; have hnc22 := NB110_113.out; obtain ⟨hcz23_0, hcz23_1, hcz23_2, hcz23_3, hcz23_4, hcz23_5, hcz23_6, hcz23_7, hcz23_8, hcz23_9, hcz23_10, hcz23_11, hcz23_12⟩ := bc13 BK113.out; obtain ⟨hfz23_0, hfz23_1, hfz23_2, hfz23_3, hfz23_4, hfz23_5, hfz23_6, hfz23_7, hfz23_8, hfz23_9, hfz23_10, hfz23_11, hfz23_12⟩ := bf13 BK113.out) | ((with_reducible refine gate_callee (f := 74) rfl ?_); refine goesL_ (some 32) rfl rfl Try.func74 (by kernel_rfl) rfl #[.agg #[.string ((rd_T64 l0_1 x27_1).f0.f0), .int .i64 ((rd_T64 l0_1 x27_1).f0.f1), .int .i64 ((rd_T64 l0_1 x27_1).f0.f2), .int .i64 ((rd_T64 l0_1 x27_1).f0.f3), .int .i64 ((rd_T64 l0_1 x27_1).f0.f4), .int .i64 ((rd_T64 l0_1 x27_1).f1), .int .i64 ((rd_T64 l0_1 x27_1).f2), .bool ((rd_T64 l0_1 x27_1).f3), .string ((rd_T64 l0_1 x27_1).f4.f0), .int .i64 ((rd_T64 l0_1 x27_1).f4.f1), .int .i64 ((rd_T64 l0_1 x27_1).f4.f2), .int .i64 ((rd_T64 l0_1 x27_1).f4.f3), .int .i64 ((rd_T64 l0_1 x27_1).f4.f4)]] rfl (by (try simp only [List.map_toArray, List.map_cons, List.map_nil]); first | done | rfl | (simp only [List.length_drop, List.length_take]; rfl)) ?_; (with_reducible refine (trig_wrongStep.calls k1 ((rd_T64 l0_1 x27_1).f0.f0) ((rd_T64 l0_1 x27_1).f0.f1) ((rd_T64 l0_1 x27_1).f0.f2) ((rd_T64 l0_1 x27_1).f0.f3) ((rd_T64 l0_1 x27_1).f0.f4) ((rd_T64 l0_1 x27_1).f1) ((rd_T64 l0_1 x27_1).f2) ((rd_T64 l0_1 x27_1).f3) ((rd_T64 l0_1 x27_1).f4.f0) ((rd_T64 l0_1 x27_1).f4.f1) ((rd_T64 l0_1 x27_1).f4.f2) ((rd_T64 l0_1 x27_1).f4.f3) ((rd_T64 l0_1 x27_1).f4.f4) t114 _ A15.out).mono ?_); rintro e w24 ⟨rfl, hb⟩; refine ⟨_, rfl, ?_⟩; have n0_ := Aside0.mk (blk_below (g := gb110) (o := .cells #[.string a0_0, .slice (some ad112) l0_1.length c0_1] 24 (0, 0)) (by (iterate 13 (with_reducible repeat (first | refine blk_drewN ?_ _ | refine blk_drew ?_ | refine blk_alloc ?_ _)); refine blk_far ?_ NB110_113.out _); exact bg BK110.out) hb); have n1_ := Aside0.mk (blk_below (g := gb113) (o := .cells #[.string ((rd_T64 l0_1 x27_1).f0.f0), .int .i64 ((rd_T64 l0_1 x27_1).f0.f1), .int .i64 ((rd_T64 l0_1 x27_1).f0.f2), .int .i64 ((rd_T64 l0_1 x27_1).f0.f3), .int .i64 ((rd_T64 l0_1 x27_1).f0.f4), .int .i64 ((rd_T64 l0_1 x27_1).f1), .int .i64 ((rd_T64 l0_1 x27_1).f2), .bool ((rd_T64 l0_1 x27_1).f3), .string ((rd_T64 l0_1 x27_1).f4.f0), .int .i64 ((rd_T64 l0_1 x27_1).f4.f1), .int .i64 ((rd_T64 l0_1 x27_1).f4.f2), .int .i64 ((rd_T64 l0_1 x27_1).f4.f3), .int .i64 ((rd_T64 l0_1 x27_1).f4.f4)] 64 (0, 0)) (by exact pt13 (bg BK113.out)) hb); have n2_ := Aside0.mk (below_step (bs HB.out) hb); clear BK110; clear BK113; clear HB; have BK110 := n0_; have BK113 := n1_; have HB := n2_; clear n0_ n1_ n2_; (try clear hb); (try clear hb2); (try clear hk); (try clear hi)))
          go_ret
          exact ⟨by first | rfl | (simp [errW_none, errW_some] <;> rfl) | (simp [*, errW_none, errW_some] <;> rfl), bs HB.out⟩
        ·
         rw [if_neg c14] at H
         exact absurd H (by simp)
       ·
        rw [if_neg c13] at H
        exact absurd H (by simp)
      ·
       rw [if_neg c12] at H
       have c12b0 : decide (x27_1 < (l0_1.length : Int)) = false := decide_eq_false c12
       clear c12
       have H' := Aside0.mk H
       clear H
       obtain ⟨hcz25_0, hcz25_1⟩ := bc2 BK110.out
       obtain ⟨hfz25_0, hfz25_1⟩ := bf2 BK110.out
       go_wp2
       go_loopg [6, 40] k1 (fun kq v6 v40 w' => ∃ (x6_2 : Int) (x40_2 : Int), v6 = .int .i64 x6_2 ∧ v40 = .int .i64 x40_2 ∧ Aside0 (trig_wrong.l1 kq x6_2 l0_1 (l0_1.length : Int) x40_2 = some r) ∧ Aside0 (kq ≤ k1) ∧ Aside0 (w'.heap[gb110]? = some (.cells #[.string a0_0, (.slice A0_1 l0_1.length c0_1)] 24 (0, 0))) ∧ Aside0 (Below w.heap.size w w'))
       case atStart => exact ⟨(32), (0), (by first | rfl | (simp; done) | (simp [*]; done)), (by first | rfl | (simp; done) | (simp [*]; done)), H', ⟨Nat.le_refl _⟩, ⟨bg BK110.out⟩, ⟨bs HB.out⟩⟩
       case round =>
        clear H'
        try clear c1
        try clear p1
        try clear q1
        try clear hx1
        try clear c2
        try clear p2
        try clear c3
        try clear c4
        try clear c4b0
        try clear c4b1
        try clear c4b2
        try clear c5
        try clear p6
        try clear c7
        try clear c7b0
        try clear c7b1
        try clear p11
        try clear q11
        try clear hx11
        try clear c12
        try clear c12b0
        try clear c13
        try clear c13b0
        try clear c14
        try clear c14b0
        try clear c16
        try clear c16b0
        try clear c16b1
        try clear c18
        try clear c22
        try clear hcz11_0 hcz11_1
        try clear hcz19_0 hcz19_1 hcz19_10 hcz19_11 hcz19_12 hcz19_2 hcz19_3 hcz19_4 hcz19_5 hcz19_6 hcz19_7 hcz19_8 hcz19_9
        try clear hcz23_0 hcz23_1 hcz23_10 hcz23_11 hcz23_12 hcz23_2 hcz23_3 hcz23_4 hcz23_5 hcz23_6 hcz23_7 hcz23_8 hcz23_9
        try clear hcz25_0 hcz25_1
        try clear hcz6_0 hcz6_1
        try clear hcz9_0 hcz9_1
        try clear hfz11_0 hfz11_1
        try clear hfz19_0 hfz19_1 hfz19_10 hfz19_11 hfz19_12 hfz19_2 hfz19_3 hfz19_4 hfz19_5 hfz19_6 hfz19_7 hfz19_8 hfz19_9
        try clear hfz23_0 hfz23_1 hfz23_10 hfz23_11 hfz23_12 hfz23_2 hfz23_3 hfz23_4 hfz23_5 hfz23_6 hfz23_7 hfz23_8 hfz23_9
        try clear hfz25_0 hfz25_1
        try clear hfz6_0 hfz6_1
        try clear hfz9_0 hfz9_1
        try clear hx112_0
        try clear hx112_1
        try clear hx112_10
        try clear hx112_11
        try clear hx112_12
        try clear hx112_2
        try clear hx112_3
        try clear hx112_4
        try clear hx112_5
        try clear hx112_6
        try clear hx112_7
        try clear hx112_8
        try clear hx112_9
        try clear p112
        try clear p2
        try clear q112
        obtain ⟨x6_2, x40_2, rfl, rfl, HA, HK2, BK110, HB⟩ := hrel
        cases gk with
        | zero => exact absurd HA.out (by simp [trig_wrong.l1])
        | succ k2 =>
         have H := HA.out
         clear HA
         simp only [trig_wrong.l1] at H
         by_cases c26 : x40_2 < (l0_1.length : Int)
         ·
          rw [if_pos c26] at H
          have c26b0 : decide (x40_2 < (l0_1.length : Int)) = true := decide_eq_true c26
          clear c26
          by_cases c27 : 0 ≤ x40_2
          ·
           rw [if_pos c27] at H
           have c27b0 : decide (0 ≤ x40_2) = true := decide_eq_true c27
           clear c27
           by_cases c28 : x40_2 < (l0_1.length : Int)
           ·
            rw [if_pos c28] at H
            have c28b0 : decide (x40_2 < (l0_1.length : Int)) = true := decide_eq_true c28
            clear c28
            by_cases c29 : ((rd_T64 l0_1 x40_2).f1) > x6_2
            ·
             rw [if_pos c29] at H
             have c29b0 : decide (x6_2 < ((rd_T64 l0_1 x40_2).f1)) = true := decide_eq_true c29
             clear c29
             obtain rfl := Option.some.inj H
             have p115 : 0 ≤ (x40_2 : Int) := of_decide_eq_true (by first | (with_reducible assumption) | assumption)
             have q115 : x40_2 < (l0_1.length : Int) := of_decide_eq_true (by first | (with_reducible assumption) | assumption)
             obtain ⟨ad115, e115, hx115_0, hx115_1, hx115_2, hx115_3, hx115_4, hx115_5, hx115_6, hx115_7, hx115_8, hx115_9, hx115_10, hx115_11, hx115_12⟩ := at_T64 HR0_1.out x40_2 p115 q115
             cases e115
             replace hx115_0 := pw_cell_below HB.out hx115_0
             replace hx115_1 := pw_cell_below HB.out hx115_1
             replace hx115_2 := pw_cell_below HB.out hx115_2
             replace hx115_3 := pw_cell_below HB.out hx115_3
             replace hx115_4 := pw_cell_below HB.out hx115_4
             replace hx115_5 := pw_cell_below HB.out hx115_5
             replace hx115_6 := pw_cell_below HB.out hx115_6
             replace hx115_7 := pw_cell_below HB.out hx115_7
             replace hx115_8 := pw_cell_below HB.out hx115_8
             replace hx115_9 := pw_cell_below HB.out hx115_9
             replace hx115_10 := pw_cell_below HB.out hx115_10
             replace hx115_11 := pw_cell_below HB.out hx115_11
             replace hx115_12 := pw_cell_below HB.out hx115_12
             replace p115 := eq_true p115
             replace q115 := eq_true q115
             go_wp2_with (first | ((with_reducible refine gate_dst (N := 8) rfl ?_); refine box_event ?hg (N := 8) ?hd (cs := #[.string (⟨#[]⟩ : ByteArray), .int .i64 0, .int .i64 0, .int .i64 0, .int .i64 0, .int .i64 0, .int .i64 0, .bool false, .string (⟨#[]⟩ : ByteArray), .int .i64 0, .int .i64 0, .int .i64 0, .int .i64 0]) (t := 64) ?hr ?_; (case hd => rfl); (case hg => rfl); (case hr => first | (go_simp; done) | (go_simp; rfl)); intro gb116 hg w30 hbox hb; have n0_ := Aside0.mk (blk_below (bg BK110.out) hb); have n1_ := Aside0.mk (below_step (bs HB.out) hb); have n2_ := Aside0.mk (hbox); have n3_ := Aside0.mk ((by rw [hg]; exact (below_size (bs HB.out)) : w.heap.size ≤ gb116)); have n4_ := n3_; have n5_ := Aside0.mk ((by rw [hg]; exact Nat.ne_of_lt (blk_lt (bg BK110.out)) : gb110 ≠ gb116)); have n6_ := Aside0.mk ((by rw [hg]; exact Nat.ne_of_gt (blk_lt (bg BK110.out)) : gb116 ≠ gb110)); clear BK110; clear HB; have BK110 := n0_; have HB := n1_; have BK116 := n2_; have GW116 := n3_; have GE116 := n4_; have NB110_116 := n5_; have NB116_110 := n6_; clear n0_ n1_ n2_ n3_ n4_ n5_ n6_; clear hb hbox hg; have hnb31 := NB116_110.out; have hnc31 := NB110_116.out; obtain ⟨hcz32_0, hcz32_1, hcz32_2, hcz32_3, hcz32_4, hcz32_5, hcz32_6, hcz32_7, hcz32_8, hcz32_9, hcz32_10, hcz32_11, hcz32_12⟩ := bc13 BK116.out; obtain ⟨hfz32_0, hfz32_1, hfz32_2, hfz32_3, hfz32_4, hfz32_5, hfz32_6, hfz32_7, hfz32_8, hfz32_9, hfz32_10, hfz32_11, hfz32_12⟩ := bf13 BK116.out))
             go_ret
             exact ⟨by first | rfl | (simp [errW_none, errW_some] <;> rfl) | (simp [*, errW_none, errW_some] <;> rfl), bs HB.out⟩
            ·
             rw [if_neg c29] at H
             have c29b0 : decide (x6_2 < ((rd_T64 l0_1 x40_2).f1)) = false := decide_eq_false c29
             clear c29
             have H' := Aside0.mk H
             clear H
             have p115 : 0 ≤ (x40_2 : Int) := of_decide_eq_true (by first | (with_reducible assumption) | assumption)
             have q115 : x40_2 < (l0_1.length : Int) := of_decide_eq_true (by first | (with_reducible assumption) | assumption)
             obtain ⟨ad115, e115, hx115_0, hx115_1, hx115_2, hx115_3, hx115_4, hx115_5, hx115_6, hx115_7, hx115_8, hx115_9, hx115_10, hx115_11, hx115_12⟩ := at_T64 HR0_1.out x40_2 p115 q115
             cases e115
             replace hx115_0 := pw_cell_below HB.out hx115_0
             replace hx115_1 := pw_cell_below HB.out hx115_1
             replace hx115_2 := pw_cell_below HB.out hx115_2
             replace hx115_3 := pw_cell_below HB.out hx115_3
             replace hx115_4 := pw_cell_below HB.out hx115_4
             replace hx115_5 := pw_cell_below HB.out hx115_5
             replace hx115_6 := pw_cell_below HB.out hx115_6
             replace hx115_7 := pw_cell_below HB.out hx115_7
             replace hx115_8 := pw_cell_below HB.out hx115_8
             replace hx115_9 := pw_cell_below HB.out hx115_9
             replace hx115_10 := pw_cell_below HB.out hx115_10
             replace hx115_11 := pw_cell_below HB.out hx115_11
             replace hx115_12 := pw_cell_below HB.out hx115_12
             replace p115 := eq_true p115
             replace q115 := eq_true q115
             go_wp2_with (first | ((with_reducible refine gate_dst (N := 8) rfl ?_); refine box_event ?hg (N := 8) ?hd (cs := #[.string (⟨#[]⟩ : ByteArray), .int .i64 0, .int .i64 0, .int .i64 0, .int .i64 0, .int .i64 0, .int .i64 0, .bool false, .string (⟨#[]⟩ : ByteArray), .int .i64 0, .int .i64 0, .int .i64 0, .int .i64 0]) (t := 64) ?hr ?_; (case hd => rfl); (case hg => rfl); (case hr => first | (go_simp; done) | (go_simp; rfl)); intro gb116 hg w33 hbox hb; have n0_ := Aside0.mk (blk_below (bg BK110.out) hb); have n1_ := Aside0.mk (below_step (bs HB.out) hb); have n2_ := Aside0.mk (hbox); have n3_ := Aside0.mk ((by rw [hg]; exact (below_size (bs HB.out)) : w.heap.size ≤ gb116)); have n4_ := n3_; have n5_ := Aside0.mk ((by rw [hg]; exact Nat.ne_of_lt (blk_lt (bg BK110.out)) : gb110 ≠ gb116)); have n6_ := Aside0.mk ((by rw [hg]; exact Nat.ne_of_gt (blk_lt (bg BK110.out)) : gb116 ≠ gb110)); clear BK110; clear HB; have BK110 := n0_; have HB := n1_; have BK116 := n2_; have GW116 := n3_; have GE116 := n4_; have NB110_116 := n5_; have NB116_110 := n6_; clear n0_ n1_ n2_ n3_ n4_ n5_ n6_; clear hb hbox hg; have hnb34 := NB116_110.out; have hnc34 := NB110_116.out; obtain ⟨hcz35_0, hcz35_1, hcz35_2, hcz35_3, hcz35_4, hcz35_5, hcz35_6, hcz35_7, hcz35_8, hcz35_9, hcz35_10, hcz35_11, hcz35_12⟩ := bc13 BK116.out; obtain ⟨hfz35_0, hfz35_1, hfz35_2, hfz35_3, hfz35_4, hfz35_5, hfz35_6, hfz35_7, hfz35_8, hfz35_9, hfz35_10, hfz35_11, hfz35_12⟩ := bf13 BK116.out))
             go_roundg k2
             case measure => have := HK1.out; have := HK2.out; omega
             case rel => exact ⟨(wrap64 (x6_2 - ((rd_T64 l0_1 x40_2).f1))), (wrap64 (x40_2 + 1)), (by first | rfl | (simp; done) | (simp [*]; done)), (by first | rfl | (simp; done) | (simp [*]; done)), H', ⟨by have := HK1.out; have := HK2.out; omega⟩, ⟨by (iterate 13 (with_reducible repeat (first | refine blk_drewN ?_ _ | refine blk_drew ?_ | refine blk_alloc ?_ _)); refine blk_far ?_ NB110_116.out _); exact bg BK110.out⟩, ⟨bs HB.out⟩⟩
           ·
            rw [if_neg c28] at H
            exact absurd H (by simp)
          ·
           rw [if_neg c27] at H
           exact absurd H (by simp)
         ·
          rw [if_neg c26] at H
          have c26b0 : decide (x40_2 < (l0_1.length : Int)) = false := decide_eq_false c26
          clear c26
          obtain rfl := Option.some.inj H
          go_wp2
          go_ret
          exact ⟨by first | rfl | (simp [errW_none, errW_some] <;> rfl) | (simp [*, errW_none, errW_some] <;> rfl), bs HB.out⟩
 ·
  replace c3 := Bool.eq_false_iff.mpr c3
  subst c3
  have H1 : (some 4) = some r := by rw [if_neg (show ¬ (false = true) by decide)] at H; exact H
  clear H
  have H := H1
  clear H1
  obtain rfl := Option.some.inj H
  go_enter Try.func53, Try.ntmps53
  go_wp2_with (first | ((with_reducible refine gate_dst (N := 1) rfl ?_); refine box_event ?hg (N := 1) ?hd (cs := #[.string a0_0, .slice A0_1 l0_1.length c0_1]) (t := 24) ?hr ?_; (case hd => rfl); (case hg => rfl); (case hr => first | (go_simp; done) | (go_simp; rfl)); intro gb110 hg w36 hbox hb; have n0_ := Aside0.mk (below_step (bs HB.out) hb); have n1_ := Aside0.mk (hbox); have n2_ := Aside0.mk ((by rw [hg]; exact (below_size (bs HB.out)) : w.heap.size ≤ gb110)); have n3_ := n2_; clear HB; have HB := n0_; have BK110 := n1_; have GW110 := n2_; have GE110 := n3_; clear n0_ n1_ n2_ n3_; clear hb hbox hg; obtain ⟨hcz37_0, hcz37_1⟩ := bc2 BK110.out; obtain ⟨hfz37_0, hfz37_1⟩ := bf2 BK110.out) | ((with_reducible refine gate_callee (f := 73) rfl ?_); refine goesL_ (some 12) rfl rfl Try.func73 (by kernel_rfl) rfl #[.string a0_0] rfl (by (try simp only [List.map_toArray, List.map_cons, List.map_nil]); first | done | rfl | (simp only [List.length_drop, List.length_take]; rfl)) ?_; (with_reducible refine (lex_Name.calls k a0_0 false _ A2.out).mono ?_); rintro e w' ⟨rfl, ⟨nd, rfl⟩⟩; refine ⟨_, rfl, ?_⟩))
  go_ret
  exact ⟨by first | rfl | (simp [errW_none, errW_some] <;> rfl) | (simp [*, errW_none, errW_some] <;> rfl), bs HB.out⟩

end Go.Proofs.Ytgdjiphljadlcaa.H
