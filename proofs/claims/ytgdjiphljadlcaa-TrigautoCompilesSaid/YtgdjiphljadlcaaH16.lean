-- Printed by wip/hprint.py (this project's own driver of the kit's print) out of the translation; Lean checks it.
import Derived.Test.YtgdjiphljadlcaaH0
import Derived.Test.YtgdjiphljadlcaaH13
import Derived.Test.YtgdjiphljadlcaaH15
namespace Go.Proofs.Ytgdjiphljadlcaa.H
open Go.RowKit Go.Proofs.YtgdjiphljadlcaaW.PrintWords Go.Proofs.YtgdjiphljadlcaaW.PrintLast Go.Proofs.YtgdjiphljadlcaaW.PrintMore
attribute [local go_sem] max2_int min2_int max_two min_two max_three min_three max_four min_four   -- for this text's walks alone
set_option linter.unusedVariables false
set_option linter.unusedSimpArgs false

/-! ### signalbenchref43_wrong: function 70 -/
mutual
def signalbenchref43_wrong.l0 : Nat → Int → ByteArray → List (S64) → Option (Int)
 | 0, _, _, _ => none
 | k + 1, x3, x160000, x160001 => if x3 < (x160001.length : Int) then (if 0 ≤ x3 then ((signalbenchref43_wrongStep.f k ((rd_T64 x160001 x3).f0.f0) ((rd_T64 x160001 x3).f0.f1) ((rd_T64 x160001 x3).f0.f2) ((rd_T64 x160001 x3).f0.f3) ((rd_T64 x160001 x3).f0.f4) ((rd_T64 x160001 x3).f1) ((rd_T64 x160001 x3).f2) ((rd_T64 x160001 x3).f3) ((rd_T64 x160001 x3).f4.f0) ((rd_T64 x160001 x3).f4.f1) ((rd_T64 x160001 x3).f4.f2) ((rd_T64 x160001 x3).f4.f3) ((rd_T64 x160001 x3).f4.f4)).bind fun t162 => (if t162 = 0 then (signalbenchref43_wrong.l0 k (wrap64 (x3 + 1)) x160000 x160001) else (some t162))) else (none)) else (signalbenchref43_wrong.l1 k 0 0 x160000 x160001)
def signalbenchref43_wrong.l1 : Nat → Int → Int → ByteArray → List (S64) → Option (Int)
 | 0, _, _, _, _ => none
 | k + 1, x5, x6, x160000, x160001 => if x6 < (x160001.length : Int) then (if 0 ≤ x6 then (if ((rd_T64 x160001 x6).f1) > 32 then (some 6) else (signalbenchref43_wrong.l1 k (wrap64 (x5 + ((rd_T64 x160001 x6).f1))) (wrap64 (x6 + 1)) x160000 x160001)) else (none)) else (if x5 > 32 then (some 6) else (some 0))
end
def signalbenchref43_wrong.f (k : Nat) (a0_0 : ByteArray) (l0_1 : List (S64)) : Option (Int) := (signalbenchref05_Name.f k a0_0).bind fun t160 => (if t160 = true then (if (l0_1.length : Int) = 0 then (some 1) else (if (l0_1.length : Int) > 32 then (some 6) else (signalbenchref43_wrong.l0 k 0 a0_0 l0_1))) else (some 4))
set_option maxHeartbeats 8000000 in
set_option maxRecDepth 100000 in
theorem signalbenchref43_wrong.calls (k : Nat) (a0_0 : ByteArray) (A0_1 : Option Addr) (c0_1 : Nat) (l0_1 : List (S64)) (r : Int) (w : World) (hr0_1 : Kd.C k64 w A0_1 l0_1.length l0_1) (hc0_1 : l0_1.length ≤ c0_1) (h : signalbenchref43_wrong.f k a0_0 l0_1 = some r) :
  Calls Try.prog 70 #[.agg #[.string a0_0, .slice A0_1 l0_1.length c0_1]] w fun e w' => e = .returned (.int .i64 r) ∧ Below w.heap.size w w' := by
 have hu24 := Try.underlying24
 have hu64 := Try.underlying64
 have HR0_1 := Aside0.mk hr0_1
 have HC0_1 := Aside0.mk hc0_1
 clear hr0_1 hc0_1
 have HB := Aside0.mk (Below.refl w.heap.size w)
 have H : ((signalbenchref05_Name.f k a0_0).bind fun t160 => (if t160 = true then (if (l0_1.length : Int) = 0 then (some 1) else (if (l0_1.length : Int) > 32 then (some 6) else (signalbenchref43_wrong.l0 k 0 a0_0 l0_1))) else (some 4))) = some r := h
 clear h
 replace H := Option.bind_eq_some_iff.mp H
 obtain ⟨t160, A20, H⟩ := H
 replace H : (if t160 = true then (if (l0_1.length : Int) = 0 then (some 1) else (if (l0_1.length : Int) > 32 then (some 6) else (signalbenchref43_wrong.l0 k 0 a0_0 l0_1))) else (some 4)) = some r := H
 have A2 := Aside0.mk A20
 clear A20
 by_cases c3 : t160 = true
 ·
  subst c3
  have H1 : (if (l0_1.length : Int) = 0 then (some 1) else (if (l0_1.length : Int) > 32 then (some 6) else (signalbenchref43_wrong.l0 k 0 a0_0 l0_1))) = some r := by rw [if_pos rfl] at H; exact H
  clear H
  have H := H1
  clear H1
  by_cases c4 : (l0_1.length : Int) = 0
  ·
   rw [if_pos c4] at H
   have c4b0 : ((l0_1.length : Int) == 0) = true := beq_iff_eq.mpr c4
   have c4b1 : ((l0_1.length : Int) != 0) = false := bne_eq_false_iff_eq.mpr c4
   clear c4
   obtain rfl := Option.some.inj H
   go_enter Try.func70, Try.ntmps70
   go_wp2_with (first | ((with_reducible refine gate_dst (N := 1) rfl ?_); refine box_event ?hg (N := 1) ?hd (cs := #[.string a0_0, .slice A0_1 l0_1.length c0_1]) (t := 24) ?hr ?_; (case hd => rfl); (case hg => rfl); (case hr => first | (go_simp; done) | (go_simp; rfl)); intro gb159 hg w5 hbox hb; have n0_ := Aside0.mk (below_step (bs HB.out) hb); have n1_ := Aside0.mk (hbox); have n2_ := Aside0.mk ((by rw [hg]; exact (below_size (bs HB.out)) : w.heap.size ≤ gb159)); have n3_ := n2_; clear HB; have HB := n0_; have BK159 := n1_; have GW159 := n2_; have GE159 := n3_; clear n0_ n1_ n2_ n3_; clear hb hbox hg; obtain ⟨hcz6_0, hcz6_1⟩ := bc2 BK159.out; obtain ⟨hfz6_0, hfz6_1⟩ := bf2 BK159.out) | ((with_reducible refine gate_callee (f := 83) rfl ?_); refine goesL_ (some 9) rfl rfl Try.func83 (by kernel_rfl) rfl #[.string a0_0] rfl (by (try simp only [List.map_toArray, List.map_cons, List.map_nil]); first | done | rfl | (simp only [List.length_drop, List.length_take]; rfl)) ?_; (with_reducible refine (signalbenchref05_Name.calls k a0_0 true _ A2.out).mono ?_); rintro e w' ⟨rfl, ⟨nd, rfl⟩⟩; refine ⟨_, rfl, ?_⟩))
   go_ret
   exact ⟨by first | rfl | (simp [errW_none, errW_some] <;> rfl) | (simp [*, errW_none, errW_some] <;> rfl), bs HB.out⟩
  ·
   rw [if_neg c4] at H
   have c4b0 : ((l0_1.length : Int) == 0) = false := beq_eq_false_iff_ne.mpr c4
   have c4b1 : ((l0_1.length : Int) != 0) = true := bne_iff_ne.mpr c4
   have c4b2 : ¬ (l0_1 = []) := fun h_ => c4 (by rw [h_]; rfl)
   by_cases c7 : (l0_1.length : Int) > 32
   ·
    rw [if_pos c7] at H
    have c7b0 : decide (32 < (l0_1.length : Int)) = true := decide_eq_true c7
    have c7b1 : decide (32 < l0_1.length) = true := decide_eq_true (by omega)
    clear c7
    obtain rfl := Option.some.inj H
    go_enter Try.func70, Try.ntmps70
    go_wp2_with (first | ((with_reducible refine gate_dst (N := 1) rfl ?_); refine box_event ?hg (N := 1) ?hd (cs := #[.string a0_0, .slice A0_1 l0_1.length c0_1]) (t := 24) ?hr ?_; (case hd => rfl); (case hg => rfl); (case hr => first | (go_simp; done) | (go_simp; rfl)); intro gb159 hg w8 hbox hb; have n0_ := Aside0.mk (below_step (bs HB.out) hb); have n1_ := Aside0.mk (hbox); have n2_ := Aside0.mk ((by rw [hg]; exact (below_size (bs HB.out)) : w.heap.size ≤ gb159)); have n3_ := n2_; clear HB; have HB := n0_; have BK159 := n1_; have GW159 := n2_; have GE159 := n3_; clear n0_ n1_ n2_ n3_; clear hb hbox hg; obtain ⟨hcz9_0, hcz9_1⟩ := bc2 BK159.out; obtain ⟨hfz9_0, hfz9_1⟩ := bf2 BK159.out) | ((with_reducible refine gate_callee (f := 83) rfl ?_); refine goesL_ (some 9) rfl rfl Try.func83 (by kernel_rfl) rfl #[.string a0_0] rfl (by (try simp only [List.map_toArray, List.map_cons, List.map_nil]); first | done | rfl | (simp only [List.length_drop, List.length_take]; rfl)) ?_; (with_reducible refine (signalbenchref05_Name.calls k a0_0 true _ A2.out).mono ?_); rintro e w' ⟨rfl, ⟨nd, rfl⟩⟩; refine ⟨_, rfl, ?_⟩))
    go_ret
    exact ⟨by first | rfl | (simp [errW_none, errW_some] <;> rfl) | (simp [*, errW_none, errW_some] <;> rfl), bs HB.out⟩
   ·
    rw [if_neg c7] at H
    have c7b0 : decide (32 < (l0_1.length : Int)) = false := decide_eq_false c7
    have c7b1 : decide (32 < l0_1.length) = false := decide_eq_false (by omega)
    clear c7
    have H' := Aside0.mk H
    clear H
    go_enter Try.func70, Try.ntmps70
    go_wp2_with (first | ((with_reducible refine gate_dst (N := 1) rfl ?_); refine box_event ?hg (N := 1) ?hd (cs := #[.string a0_0, .slice A0_1 l0_1.length c0_1]) (t := 24) ?hr ?_; (case hd => rfl); (case hg => rfl); (case hr => first | (go_simp; done) | (go_simp; rfl)); intro gb159 hg w10 hbox hb; have n0_ := Aside0.mk (below_step (bs HB.out) hb); have n1_ := Aside0.mk (hbox); have n2_ := Aside0.mk ((by rw [hg]; exact (below_size (bs HB.out)) : w.heap.size ≤ gb159)); have n3_ := n2_; clear HB; have HB := n0_; have BK159 := n1_; have GW159 := n2_; have GE159 := n3_; clear n0_ n1_ n2_ n3_; clear hb hbox hg; obtain ⟨hcz11_0, hcz11_1⟩ := bc2 BK159.out; obtain ⟨hfz11_0, hfz11_1⟩ := bf2 BK159.out) | ((with_reducible refine gate_callee (f := 83) rfl ?_); refine goesL_ (some 9) rfl rfl Try.func83 (by kernel_rfl) rfl #[.string a0_0] rfl (by (try simp only [List.map_toArray, List.map_cons, List.map_nil]); first | done | rfl | (simp only [List.length_drop, List.length_take]; rfl)) ?_; (with_reducible refine (signalbenchref05_Name.calls k a0_0 true _ A2.out).mono ?_); rintro e w' ⟨rfl, ⟨nd, rfl⟩⟩; refine ⟨_, rfl, ?_⟩))
    go_loopg [3] k (fun kq v3 w' => ∃ (x3_1 : Int), v3 = .int .i64 x3_1 ∧ Aside0 (signalbenchref43_wrong.l0 kq x3_1 a0_0 l0_1 = some r) ∧ Aside0 (kq ≤ k) ∧ Aside0 (w'.heap[gb159]? = some (.cells #[.string a0_0, (.slice A0_1 l0_1.length c0_1)] 24 (0, 0))) ∧ Aside0 (Below w.heap.size w w'))
    case atStart => exact ⟨(0), (by first | rfl | (simp; done) | (simp [*]; done)), H', ⟨Nat.le_refl _⟩, ⟨bg BK159.out⟩, ⟨bs HB.out⟩⟩
    case round =>
     clear H'
     try clear p2
     try clear c3
     try clear c4
     try clear c4b0
     try clear c4b1
     try clear c4b2
     try clear c7
     try clear c7b0
     try clear c7b1
     try clear c8
     try clear hcz11_0 hcz11_1
     try clear hcz6_0 hcz6_1
     try clear hcz9_0 hcz9_1
     try clear hfz11_0 hfz11_1
     try clear hfz6_0 hfz6_1
     try clear hfz9_0 hfz9_1
     obtain ⟨x3_1, rfl, HA, HK1, BK159, HB⟩ := hrel
     cases gk with
     | zero => exact absurd HA.out (by simp [signalbenchref43_wrong.l0])
     | succ k1 =>
      have H := HA.out
      clear HA
      simp only [signalbenchref43_wrong.l0] at H
      by_cases c12 : x3_1 < (l0_1.length : Int)
      ·
       rw [if_pos c12] at H
       have c12b0 : decide (x3_1 < (l0_1.length : Int)) = true := decide_eq_true c12
       clear c12
       by_cases c13 : 0 ≤ x3_1
       ·
        rw [if_pos c13] at H
        have c13b0 : decide (0 ≤ x3_1) = true := decide_eq_true c13
        clear c13
        replace H := Option.bind_eq_some_iff.mp H
        obtain ⟨t162, A140, H⟩ := H
        replace H : (if t162 = 0 then (signalbenchref43_wrong.l0 k1 (wrap64 (x3_1 + 1)) a0_0 l0_1) else (some t162)) = some r := H
        have A14 := Aside0.mk A140
        clear A140
        by_cases c15 : t162 = 0
        ·
         rw [if_pos c15] at H
         have c15b0 : (t162 == 0) = true := beq_iff_eq.mpr c15
         have c15b1 : (t162 != 0) = false := bne_eq_false_iff_eq.mpr c15
         clear c15
         have H' := Aside0.mk H
         clear H
         obtain ⟨hcz16_0, hcz16_1⟩ := bc2 BK159.out
         obtain ⟨hfz16_0, hfz16_1⟩ := bf2 BK159.out
         have p161 : 0 ≤ (x3_1 : Int) := of_decide_eq_true (by first | (with_reducible assumption) | assumption)
         have q161 : x3_1 < (l0_1.length : Int) := of_decide_eq_true (by first | (with_reducible assumption) | assumption)
         obtain ⟨ad161, e161, hx161_0, hx161_1, hx161_2, hx161_3, hx161_4, hx161_5, hx161_6, hx161_7, hx161_8, hx161_9, hx161_10, hx161_11, hx161_12⟩ := at_T64 HR0_1.out x3_1 p161 q161
         cases e161
         replace hx161_0 := pw_cell_below HB.out hx161_0
         replace hx161_1 := pw_cell_below HB.out hx161_1
         replace hx161_2 := pw_cell_below HB.out hx161_2
         replace hx161_3 := pw_cell_below HB.out hx161_3
         replace hx161_4 := pw_cell_below HB.out hx161_4
         replace hx161_5 := pw_cell_below HB.out hx161_5
         replace hx161_6 := pw_cell_below HB.out hx161_6
         replace hx161_7 := pw_cell_below HB.out hx161_7
         replace hx161_8 := pw_cell_below HB.out hx161_8
         replace hx161_9 := pw_cell_below HB.out hx161_9
         replace hx161_10 := pw_cell_below HB.out hx161_10
         replace hx161_11 := pw_cell_below HB.out hx161_11
         replace hx161_12 := pw_cell_below HB.out hx161_12
         replace p161 := eq_true p161
         replace q161 := eq_true q161
         go_wp2_with (first | ((with_reducible refine gate_callee (f := 84) rfl ?_); refine goesL_ (some 31) rfl rfl Try.func84 (by kernel_rfl) rfl #[.agg #[.string ((rd_T64 l0_1 x3_1).f0.f0), .int .i64 ((rd_T64 l0_1 x3_1).f0.f1), .int .i64 ((rd_T64 l0_1 x3_1).f0.f2), .int .i64 ((rd_T64 l0_1 x3_1).f0.f3), .int .i64 ((rd_T64 l0_1 x3_1).f0.f4), .int .i64 ((rd_T64 l0_1 x3_1).f1), .int .i64 ((rd_T64 l0_1 x3_1).f2), .bool ((rd_T64 l0_1 x3_1).f3), .string ((rd_T64 l0_1 x3_1).f4.f0), .int .i64 ((rd_T64 l0_1 x3_1).f4.f1), .int .i64 ((rd_T64 l0_1 x3_1).f4.f2), .int .i64 ((rd_T64 l0_1 x3_1).f4.f3), .int .i64 ((rd_T64 l0_1 x3_1).f4.f4)]] rfl (by (try simp only [List.map_toArray, List.map_cons, List.map_nil]); first | done | rfl | (simp only [List.length_drop, List.length_take]; rfl)) ?_; (with_reducible refine (signalbenchref43_wrongStep.calls k1 ((rd_T64 l0_1 x3_1).f0.f0) ((rd_T64 l0_1 x3_1).f0.f1) ((rd_T64 l0_1 x3_1).f0.f2) ((rd_T64 l0_1 x3_1).f0.f3) ((rd_T64 l0_1 x3_1).f0.f4) ((rd_T64 l0_1 x3_1).f1) ((rd_T64 l0_1 x3_1).f2) ((rd_T64 l0_1 x3_1).f3) ((rd_T64 l0_1 x3_1).f4.f0) ((rd_T64 l0_1 x3_1).f4.f1) ((rd_T64 l0_1 x3_1).f4.f2) ((rd_T64 l0_1 x3_1).f4.f3) ((rd_T64 l0_1 x3_1).f4.f4) t162 _ A14.out).mono ?_); rintro e w17 ⟨rfl, hb⟩; refine ⟨_, rfl, ?_⟩; have n0_ := Aside0.mk (blk_below (bg BK159.out) hb); have n1_ := Aside0.mk (below_step (bs HB.out) hb); clear BK159; clear HB; have BK159 := n0_; have HB := n1_; clear n0_ n1_; (try clear hb); (try clear hb2); (try clear hk); (try clear hi)))
         go_roundg k1
         case measure => have := HK1.out; omega
         case rel => exact ⟨(wrap64 (x3_1 + 1)), (by first | rfl | (simp; done) | (simp [*]; done)), H', ⟨by have := HK1.out; omega⟩, ⟨bg BK159.out⟩, ⟨bs HB.out⟩⟩
        ·
         rw [if_neg c15] at H
         have c15b0 : (t162 == 0) = false := beq_eq_false_iff_ne.mpr c15
         have c15b1 : (t162 != 0) = true := bne_iff_ne.mpr c15
         obtain rfl := Option.some.inj H
         obtain ⟨hcz18_0, hcz18_1⟩ := bc2 BK159.out
         obtain ⟨hfz18_0, hfz18_1⟩ := bf2 BK159.out
         have p161 : 0 ≤ (x3_1 : Int) := of_decide_eq_true (by first | (with_reducible assumption) | assumption)
         have q161 : x3_1 < (l0_1.length : Int) := of_decide_eq_true (by first | (with_reducible assumption) | assumption)
         obtain ⟨ad161, e161, hx161_0, hx161_1, hx161_2, hx161_3, hx161_4, hx161_5, hx161_6, hx161_7, hx161_8, hx161_9, hx161_10, hx161_11, hx161_12⟩ := at_T64 HR0_1.out x3_1 p161 q161
         cases e161
         replace hx161_0 := pw_cell_below HB.out hx161_0
         replace hx161_1 := pw_cell_below HB.out hx161_1
         replace hx161_2 := pw_cell_below HB.out hx161_2
         replace hx161_3 := pw_cell_below HB.out hx161_3
         replace hx161_4 := pw_cell_below HB.out hx161_4
         replace hx161_5 := pw_cell_below HB.out hx161_5
         replace hx161_6 := pw_cell_below HB.out hx161_6
         replace hx161_7 := pw_cell_below HB.out hx161_7
         replace hx161_8 := pw_cell_below HB.out hx161_8
         replace hx161_9 := pw_cell_below HB.out hx161_9
         replace hx161_10 := pw_cell_below HB.out hx161_10
         replace hx161_11 := pw_cell_below HB.out hx161_11
         replace hx161_12 := pw_cell_below HB.out hx161_12
         replace p161 := eq_true p161
         replace q161 := eq_true q161
         go_wp2_with (first | ((with_reducible refine gate_callee (f := 84) rfl ?_); refine goesL_ (some 31) rfl rfl Try.func84 (by kernel_rfl) rfl #[.agg #[.string ((rd_T64 l0_1 x3_1).f0.f0), .int .i64 ((rd_T64 l0_1 x3_1).f0.f1), .int .i64 ((rd_T64 l0_1 x3_1).f0.f2), .int .i64 ((rd_T64 l0_1 x3_1).f0.f3), .int .i64 ((rd_T64 l0_1 x3_1).f0.f4), .int .i64 ((rd_T64 l0_1 x3_1).f1), .int .i64 ((rd_T64 l0_1 x3_1).f2), .bool ((rd_T64 l0_1 x3_1).f3), .string ((rd_T64 l0_1 x3_1).f4.f0), .int .i64 ((rd_T64 l0_1 x3_1).f4.f1), .int .i64 ((rd_T64 l0_1 x3_1).f4.f2), .int .i64 ((rd_T64 l0_1 x3_1).f4.f3), .int .i64 ((rd_T64 l0_1 x3_1).f4.f4)]] rfl (by (try simp only [List.map_toArray, List.map_cons, List.map_nil]); first | done | rfl | (simp only [List.length_drop, List.length_take]; rfl)) ?_; (with_reducible refine (signalbenchref43_wrongStep.calls k1 ((rd_T64 l0_1 x3_1).f0.f0) ((rd_T64 l0_1 x3_1).f0.f1) ((rd_T64 l0_1 x3_1).f0.f2) ((rd_T64 l0_1 x3_1).f0.f3) ((rd_T64 l0_1 x3_1).f0.f4) ((rd_T64 l0_1 x3_1).f1) ((rd_T64 l0_1 x3_1).f2) ((rd_T64 l0_1 x3_1).f3) ((rd_T64 l0_1 x3_1).f4.f0) ((rd_T64 l0_1 x3_1).f4.f1) ((rd_T64 l0_1 x3_1).f4.f2) ((rd_T64 l0_1 x3_1).f4.f3) ((rd_T64 l0_1 x3_1).f4.f4) t162 _ A14.out).mono ?_); rintro e w19 ⟨rfl, hb⟩; refine ⟨_, rfl, ?_⟩; have n0_ := Aside0.mk (blk_below (bg BK159.out) hb); have n1_ := Aside0.mk (below_step (bs HB.out) hb); clear BK159; clear HB; have BK159 := n0_; have HB := n1_; clear n0_ n1_; (try clear hb); (try clear hb2); (try clear hk); (try clear hi)))
         go_ret
         exact ⟨by first | rfl | (simp [errW_none, errW_some] <;> rfl) | (simp [*, errW_none, errW_some] <;> rfl), bs HB.out⟩
       ·
        rw [if_neg c13] at H
        exact absurd H (by simp)
      ·
       rw [if_neg c12] at H
       have c12b0 : decide (x3_1 < (l0_1.length : Int)) = false := decide_eq_false c12
       clear c12
       have H' := Aside0.mk H
       clear H
       obtain ⟨hcz20_0, hcz20_1⟩ := bc2 BK159.out
       obtain ⟨hfz20_0, hfz20_1⟩ := bf2 BK159.out
       go_wp2
       go_loopg [5, 6] k1 (fun kq v5 v6 w' => ∃ (x5_2 : Int) (x6_2 : Int), v5 = .int .i64 x5_2 ∧ v6 = .int .i64 x6_2 ∧ Aside0 (signalbenchref43_wrong.l1 kq x5_2 x6_2 a0_0 l0_1 = some r) ∧ Aside0 (kq ≤ k1) ∧ Aside0 (w'.heap[gb159]? = some (.cells #[.string a0_0, (.slice A0_1 l0_1.length c0_1)] 24 (0, 0))) ∧ Aside0 (Below w.heap.size w w'))
       case atStart => exact ⟨(0), (0), (by first | rfl | (simp; done) | (simp [*]; done)), (by first | rfl | (simp; done) | (simp [*]; done)), H', ⟨Nat.le_refl _⟩, ⟨bg BK159.out⟩, ⟨bs HB.out⟩⟩
       case round =>
        clear H'
        try clear c1
        try clear p1
        try clear q1
        try clear hx1
        try clear p2
        try clear c3
        try clear c4
        try clear c4b0
        try clear c4b1
        try clear c4b2
        try clear p6
        try clear c7
        try clear c7b0
        try clear c7b1
        try clear c8
        try clear c12
        try clear c12b0
        try clear c13
        try clear c13b0
        try clear c15
        try clear c15b0
        try clear c15b1
        try clear p16
        try clear q16
        try clear hx16
        try clear hcz11_0 hcz11_1
        try clear hcz16_0 hcz16_1
        try clear hcz18_0 hcz18_1
        try clear hcz20_0 hcz20_1
        try clear hcz6_0 hcz6_1
        try clear hcz9_0 hcz9_1
        try clear hfz11_0 hfz11_1
        try clear hfz16_0 hfz16_1
        try clear hfz18_0 hfz18_1
        try clear hfz20_0 hfz20_1
        try clear hfz6_0 hfz6_1
        try clear hfz9_0 hfz9_1
        try clear hx161_0
        try clear hx161_1
        try clear hx161_10
        try clear hx161_11
        try clear hx161_12
        try clear hx161_2
        try clear hx161_3
        try clear hx161_4
        try clear hx161_5
        try clear hx161_6
        try clear hx161_7
        try clear hx161_8
        try clear hx161_9
        try clear p161
        try clear p2
        try clear q161
        obtain ⟨x5_2, x6_2, rfl, rfl, HA, HK2, BK159, HB⟩ := hrel
        cases gk with
        | zero => exact absurd HA.out (by simp [signalbenchref43_wrong.l1])
        | succ k2 =>
         have H := HA.out
         clear HA
         simp only [signalbenchref43_wrong.l1] at H
         by_cases c21 : x6_2 < (l0_1.length : Int)
         ·
          rw [if_pos c21] at H
          have c21b0 : decide (x6_2 < (l0_1.length : Int)) = true := decide_eq_true c21
          clear c21
          by_cases c22 : 0 ≤ x6_2
          ·
           rw [if_pos c22] at H
           have c22b0 : decide (0 ≤ x6_2) = true := decide_eq_true c22
           clear c22
           by_cases c23 : ((rd_T64 l0_1 x6_2).f1) > 32
           ·
            rw [if_pos c23] at H
            have c23b0 : decide (32 < ((rd_T64 l0_1 x6_2).f1)) = true := decide_eq_true c23
            clear c23
            obtain rfl := Option.some.inj H
            obtain ⟨hcz24_0, hcz24_1⟩ := bc2 BK159.out
            obtain ⟨hfz24_0, hfz24_1⟩ := bf2 BK159.out
            have p163 : 0 ≤ (x6_2 : Int) := of_decide_eq_true (by first | (with_reducible assumption) | assumption)
            have q163 : x6_2 < (l0_1.length : Int) := of_decide_eq_true (by first | (with_reducible assumption) | assumption)
            obtain ⟨ad163, e163, hx163_0, hx163_1, hx163_2, hx163_3, hx163_4, hx163_5, hx163_6, hx163_7, hx163_8, hx163_9, hx163_10, hx163_11, hx163_12⟩ := at_T64 HR0_1.out x6_2 p163 q163
            cases e163
            replace hx163_0 := pw_cell_below HB.out hx163_0
            replace hx163_1 := pw_cell_below HB.out hx163_1
            replace hx163_2 := pw_cell_below HB.out hx163_2
            replace hx163_3 := pw_cell_below HB.out hx163_3
            replace hx163_4 := pw_cell_below HB.out hx163_4
            replace hx163_5 := pw_cell_below HB.out hx163_5
            replace hx163_6 := pw_cell_below HB.out hx163_6
            replace hx163_7 := pw_cell_below HB.out hx163_7
            replace hx163_8 := pw_cell_below HB.out hx163_8
            replace hx163_9 := pw_cell_below HB.out hx163_9
            replace hx163_10 := pw_cell_below HB.out hx163_10
            replace hx163_11 := pw_cell_below HB.out hx163_11
            replace hx163_12 := pw_cell_below HB.out hx163_12
            replace p163 := eq_true p163
            replace q163 := eq_true q163
            go_wp2
            go_ret
            exact ⟨by first | rfl | (simp [errW_none, errW_some] <;> rfl) | (simp [*, errW_none, errW_some] <;> rfl), bs HB.out⟩
           ·
            rw [if_neg c23] at H
            have c23b0 : decide (32 < ((rd_T64 l0_1 x6_2).f1)) = false := decide_eq_false c23
            clear c23
            have H' := Aside0.mk H
            clear H
            obtain ⟨hcz25_0, hcz25_1⟩ := bc2 BK159.out
            obtain ⟨hfz25_0, hfz25_1⟩ := bf2 BK159.out
            have p163 : 0 ≤ (x6_2 : Int) := of_decide_eq_true (by first | (with_reducible assumption) | assumption)
            have q163 : x6_2 < (l0_1.length : Int) := of_decide_eq_true (by first | (with_reducible assumption) | assumption)
            obtain ⟨ad163, e163, hx163_0, hx163_1, hx163_2, hx163_3, hx163_4, hx163_5, hx163_6, hx163_7, hx163_8, hx163_9, hx163_10, hx163_11, hx163_12⟩ := at_T64 HR0_1.out x6_2 p163 q163
            cases e163
            replace hx163_0 := pw_cell_below HB.out hx163_0
            replace hx163_1 := pw_cell_below HB.out hx163_1
            replace hx163_2 := pw_cell_below HB.out hx163_2
            replace hx163_3 := pw_cell_below HB.out hx163_3
            replace hx163_4 := pw_cell_below HB.out hx163_4
            replace hx163_5 := pw_cell_below HB.out hx163_5
            replace hx163_6 := pw_cell_below HB.out hx163_6
            replace hx163_7 := pw_cell_below HB.out hx163_7
            replace hx163_8 := pw_cell_below HB.out hx163_8
            replace hx163_9 := pw_cell_below HB.out hx163_9
            replace hx163_10 := pw_cell_below HB.out hx163_10
            replace hx163_11 := pw_cell_below HB.out hx163_11
            replace hx163_12 := pw_cell_below HB.out hx163_12
            replace p163 := eq_true p163
            replace q163 := eq_true q163
            have p164 : 0 ≤ (x6_2 : Int) := of_decide_eq_true (by first | (with_reducible assumption) | assumption)
            have q164 : x6_2 < (l0_1.length : Int) := of_decide_eq_true (by first | (with_reducible assumption) | assumption)
            obtain ⟨ad164, e164, hx164_0, hx164_1, hx164_2, hx164_3, hx164_4, hx164_5, hx164_6, hx164_7, hx164_8, hx164_9, hx164_10, hx164_11, hx164_12⟩ := at_T64 HR0_1.out x6_2 p164 q164
            obtain rfl : ad163 = ad164 := (by injection e164)
            replace hx164_0 := pw_cell_below HB.out hx164_0
            replace hx164_1 := pw_cell_below HB.out hx164_1
            replace hx164_2 := pw_cell_below HB.out hx164_2
            replace hx164_3 := pw_cell_below HB.out hx164_3
            replace hx164_4 := pw_cell_below HB.out hx164_4
            replace hx164_5 := pw_cell_below HB.out hx164_5
            replace hx164_6 := pw_cell_below HB.out hx164_6
            replace hx164_7 := pw_cell_below HB.out hx164_7
            replace hx164_8 := pw_cell_below HB.out hx164_8
            replace hx164_9 := pw_cell_below HB.out hx164_9
            replace hx164_10 := pw_cell_below HB.out hx164_10
            replace hx164_11 := pw_cell_below HB.out hx164_11
            replace hx164_12 := pw_cell_below HB.out hx164_12
            replace p164 := eq_true p164
            replace q164 := eq_true q164
            go_wp2
            go_roundg k2
            case measure => have := HK1.out; have := HK2.out; omega
            case rel => exact ⟨(wrap64 (x5_2 + ((rd_T64 l0_1 x6_2).f1))), (wrap64 (x6_2 + 1)), (by first | rfl | (simp; done) | (simp [*]; done)), (by first | rfl | (simp; done) | (simp [*]; done)), H', ⟨by have := HK1.out; have := HK2.out; omega⟩, ⟨bg BK159.out⟩, ⟨bs HB.out⟩⟩
          ·
           rw [if_neg c22] at H
           exact absurd H (by simp)
         ·
          rw [if_neg c21] at H
          have c21b0 : decide (x6_2 < (l0_1.length : Int)) = false := decide_eq_false c21
          clear c21
          by_cases c26 : x5_2 > 32
          ·
           rw [if_pos c26] at H
           have c26b0 : decide (32 < x5_2) = true := decide_eq_true c26
           clear c26
           obtain rfl := Option.some.inj H
           obtain ⟨hcz27_0, hcz27_1⟩ := bc2 BK159.out
           obtain ⟨hfz27_0, hfz27_1⟩ := bf2 BK159.out
           go_wp2
           go_ret
           exact ⟨by first | rfl | (simp [errW_none, errW_some] <;> rfl) | (simp [*, errW_none, errW_some] <;> rfl), bs HB.out⟩
          ·
           rw [if_neg c26] at H
           have c26b0 : decide (32 < x5_2) = false := decide_eq_false c26
           clear c26
           obtain rfl := Option.some.inj H
           obtain ⟨hcz28_0, hcz28_1⟩ := bc2 BK159.out
           obtain ⟨hfz28_0, hfz28_1⟩ := bf2 BK159.out
           go_wp2
           go_ret
           exact ⟨by first | rfl | (simp [errW_none, errW_some] <;> rfl) | (simp [*, errW_none, errW_some] <;> rfl), bs HB.out⟩
 ·
  replace c3 := Bool.eq_false_iff.mpr c3
  subst c3
  have H1 : (some 4) = some r := by rw [if_neg (show ¬ (false = true) by decide)] at H; exact H
  clear H
  have H := H1
  clear H1
  obtain rfl := Option.some.inj H
  go_enter Try.func70, Try.ntmps70
  go_wp2_with (first | ((with_reducible refine gate_dst (N := 1) rfl ?_); refine box_event ?hg (N := 1) ?hd (cs := #[.string a0_0, .slice A0_1 l0_1.length c0_1]) (t := 24) ?hr ?_; (case hd => rfl); (case hg => rfl); (case hr => first | (go_simp; done) | (go_simp; rfl)); intro gb159 hg w29 hbox hb; have n0_ := Aside0.mk (below_step (bs HB.out) hb); have n1_ := Aside0.mk (hbox); have n2_ := Aside0.mk ((by rw [hg]; exact (below_size (bs HB.out)) : w.heap.size ≤ gb159)); have n3_ := n2_; clear HB; have HB := n0_; have BK159 := n1_; have GW159 := n2_; have GE159 := n3_; clear n0_ n1_ n2_ n3_; clear hb hbox hg; obtain ⟨hcz30_0, hcz30_1⟩ := bc2 BK159.out; obtain ⟨hfz30_0, hfz30_1⟩ := bf2 BK159.out) | ((with_reducible refine gate_callee (f := 83) rfl ?_); refine goesL_ (some 9) rfl rfl Try.func83 (by kernel_rfl) rfl #[.string a0_0] rfl (by (try simp only [List.map_toArray, List.map_cons, List.map_nil]); first | done | rfl | (simp only [List.length_drop, List.length_take]; rfl)) ?_; (with_reducible refine (signalbenchref05_Name.calls k a0_0 false _ A2.out).mono ?_); rintro e w' ⟨rfl, ⟨nd, rfl⟩⟩; refine ⟨_, rfl, ?_⟩))
  go_ret
  exact ⟨by first | rfl | (simp [errW_none, errW_some] <;> rfl) | (simp [*, errW_none, errW_some] <;> rfl), bs HB.out⟩

end Go.Proofs.Ytgdjiphljadlcaa.H
