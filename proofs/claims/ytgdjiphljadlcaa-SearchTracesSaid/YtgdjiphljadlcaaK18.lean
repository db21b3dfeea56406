-- Printed by wip/hprint.py (this project's own driver of the kit's print) out of the translation; Lean checks it.
import Derived.Test.YtgdjiphljadlcaaK0
import Derived.Test.YtgdjiphljadlcaaK17
namespace Go.Proofs.Ytgdjiphljadlcaa.K
open Go.RowKit Go.Proofs.YtgdjiphljadlcaaW.PrintWords Go.Proofs.YtgdjiphljadlcaaW.PrintLast Go.Proofs.YtgdjiphljadlcaaW.PrintMore
attribute [local go_sem] max2_int min2_int max_two min_two max_three min_three max_four min_four   -- for this text's walks alone
set_option linter.unusedVariables false
set_option linter.unusedSimpArgs false

/-! ### signalbenchref44_Check: function 21 -/
def signalbenchref44_Check.l0 : Nat → Int → List (S50) → Option (Int)
 | 0, _, _ => none
 | k + 1, x3, x336000 => if x3 < (x336000.length : Int) then (if 0 ≤ x3 then ((signalbenchref44_wrongStep.f k ((rd_T50 x336000 x3).f0.f0) ((rd_T50 x336000 x3).f0.f1) ((rd_T50 x336000 x3).f0.f2) ((rd_T50 x336000 x3).f0.f3) ((rd_T50 x336000 x3).f0.f4) ((rd_T50 x336000 x3).f1) ((rd_T50 x336000 x3).f2) ((rd_T50 x336000 x3).f3.f0) ((rd_T50 x336000 x3).f3.f1) ((rd_T50 x336000 x3).f3.f2) ((rd_T50 x336000 x3).f3.f3) ((rd_T50 x336000 x3).f3.f4) (x3 == 0)).bind fun t337 => (if t337 = 0 then (signalbenchref44_Check.l0 k (wrap64 (x3 + 1)) x336000) else (some t337))) else (none)) else (some 0)
def signalbenchref44_Check.f (k : Nat) (l0_0 : List (S50)) : Option (Int) := if (l0_0.length : Int) = 0 then (some 1) else (if (l0_0.length : Int) > 32 then (some 6) else (signalbenchref44_Check.l0 k 0 l0_0))
set_option maxHeartbeats 8000000 in
set_option maxRecDepth 100000 in
theorem signalbenchref44_Check.calls (k : Nat) (A0_0 : Option Addr) (c0_0 : Nat) (l0_0 : List (S50)) (r : Int) (w : World) (hr0_0 : Kd.C k50 w A0_0 l0_0.length l0_0) (hc0_0 : l0_0.length ≤ c0_0) (h : signalbenchref44_Check.f k l0_0 = some r) :
  Calls Try.prog 21 #[.agg #[.slice A0_0 l0_0.length c0_0]] w fun e w' => e = .returned (.int .i64 r) ∧ Below w.heap.size w w' := by
 have hu31 := Try.underlying31
 have hu50 := Try.underlying50
 have HR0_0 := Aside0.mk hr0_0
 have HC0_0 := Aside0.mk hc0_0
 clear hr0_0 hc0_0
 have HB := Aside0.mk (Below.refl w.heap.size w)
 have H : (if (l0_0.length : Int) = 0 then (some 1) else (if (l0_0.length : Int) > 32 then (some 6) else (signalbenchref44_Check.l0 k 0 l0_0))) = some r := h
 clear h
 by_cases c2 : (l0_0.length : Int) = 0
 ·
  rw [if_pos c2] at H
  have c2b0 : ((l0_0.length : Int) == 0) = true := beq_iff_eq.mpr c2
  have c2b1 : ((l0_0.length : Int) != 0) = false := bne_eq_false_iff_eq.mpr c2
  clear c2
  obtain rfl := Option.some.inj H
  go_enter Try.func21, Try.ntmps21
  go_wp2_with (first | ((with_reducible refine gate_dst (N := 1) rfl ?_); refine box_event ?hg (N := 1) ?hd (cs := #[.slice A0_0 l0_0.length c0_0]) (t := 31) ?hr ?_; (case hd => rfl); (case hg => rfl); (case hr => first | (go_simp; done) | (go_simp; rfl)); intro gb335 hg w3 hbox hb; have n0_ := Aside0.mk (below_step (bs HB.out) hb); have n1_ := Aside0.mk (hbox); have n2_ := Aside0.mk ((by rw [hg]; exact (below_size (bs HB.out)) : w.heap.size ≤ gb335)); have n3_ := n2_; clear HB; have HB := n0_; have BK335 := n1_; have GW335 := n2_; have GE335 := n3_; clear n0_ n1_ n2_ n3_; clear hb hbox hg; have hcz4_0 : w3.cell? ⟨gb335, 0, none⟩ = some (.slice A0_0 l0_0.length c0_0) := (blk_cell BK335.out 0).trans rfl; have hfz4_0 := blk_frozen BK335.out 0))
  go_ret
  exact ⟨by first | rfl | (simp [errW_none, errW_some] <;> rfl) | (simp [*, errW_none, errW_some] <;> rfl), bs HB.out⟩
 ·
  rw [if_neg c2] at H
  have c2b0 : ((l0_0.length : Int) == 0) = false := beq_eq_false_iff_ne.mpr c2
  have c2b1 : ((l0_0.length : Int) != 0) = true := bne_iff_ne.mpr c2
  have c2b2 : ¬ (l0_0 = []) := fun h_ => c2 (by rw [h_]; rfl)
  by_cases c5 : (l0_0.length : Int) > 32
  ·
   rw [if_pos c5] at H
   have c5b0 : decide (32 < (l0_0.length : Int)) = true := decide_eq_true c5
   have c5b1 : decide (32 < l0_0.length) = true := decide_eq_true (by omega)
   clear c5
   obtain rfl := Option.some.inj H
   go_enter Try.func21, Try.ntmps21
   go_wp2_with (first | ((with_reducible refine gate_dst (N := 1) rfl ?_); refine box_event ?hg (N := 1) ?hd (cs := #[.slice A0_0 l0_0.length c0_0]) (t := 31) ?hr ?_; (case hd => rfl); (case hg => rfl); (case hr => first | (go_simp; done) | (go_simp; rfl)); intro gb335 hg w6 hbox hb; have n0_ := Aside0.mk (below_step (bs HB.out) hb); have n1_ := Aside0.mk (hbox); have n2_ := Aside0.mk ((by rw [hg]; exact (below_size (bs HB.out)) : w.heap.size ≤ gb335)); have n3_ := n2_; clear HB; have HB := n0_; have BK335 := n1_; have GW335 := n2_; have GE335 := n3_; clear n0_ n1_ n2_ n3_; clear hb hbox hg; have hcz7_0 : w6.cell? ⟨gb335, 0, none⟩ = some (.slice A0_0 l0_0.length c0_0) := (blk_cell BK335.out 0).trans rfl; have hfz7_0 := blk_frozen BK335.out 0))
   go_ret
   exact ⟨by first | rfl | (simp [errW_none, errW_some] <;> rfl) | (simp [*, errW_none, errW_some] <;> rfl), bs HB.out⟩
  ·
   rw [if_neg c5] at H
   have c5b0 : decide (32 < (l0_0.length : Int)) = false := decide_eq_false c5
   have c5b1 : decide (32 < l0_0.length) = false := decide_eq_false (by omega)
   clear c5
   have H' := Aside0.mk H
   clear H
   go_enter Try.func21, Try.ntmps21
   go_wp2_with (first | ((with_reducible refine gate_dst (N := 1) rfl ?_); refine box_event ?hg (N := 1) ?hd (cs := #[.slice A0_0 l0_0.length c0_0]) (t := 31) ?hr ?_; (case hd => rfl); (case hg => rfl); (case hr => first | (go_simp; done) | (go_simp; rfl)); intro gb335 hg w8 hbox hb; have n0_ := Aside0.mk (below_step (bs HB.out) hb); have n1_ := Aside0.mk (hbox); have n2_ := Aside0.mk ((by rw [hg]; exact (below_size (bs HB.out)) : w.heap.size ≤ gb335)); have n3_ := n2_; clear HB; have HB := n0_; have BK335 := n1_; have GW335 := n2_; have GE335 := n3_; clear n0_ n1_ n2_ n3_; clear hb hbox hg; have hcz9_0 : w8.cell? ⟨gb335, 0, none⟩ = some (.slice A0_0 l0_0.length c0_0) := (blk_cell BK335.out 0).trans rfl; have hfz9_0 := blk_frozen BK335.out 0))
   go_loopg [3] k (fun kq v3 w' => ∃ (x3_1 : Int), v3 = .int .i64 x3_1 ∧ Aside0 (signalbenchref44_Check.l0 kq x3_1 l0_0 = some r) ∧ Aside0 (kq ≤ k) ∧ Aside0 (w'.heap[gb335]? = some (.cells #[(.slice A0_0 l0_0.length c0_0)] 31 (0, 0))) ∧ Aside0 (Below w.heap.size w w'))
   case atStart => exact ⟨(0), (by first | rfl | (simp; done) | (simp [*]; done)), H', ⟨Nat.le_refl _⟩, ⟨bg BK335.out⟩, ⟨bs HB.out⟩⟩
   case round =>
    clear H'
    try clear c2
    try clear c2b0
    try clear c2b1
    try clear c2b2
    try clear p2
    try clear c5
    try clear c5b0
    try clear c5b1
    try clear hcz4_0
    try clear hcz7_0
    try clear hcz9_0
    try clear hfz4_0
    try clear hfz7_0
    try clear hfz9_0
    obtain ⟨x3_1, rfl, HA, HK1, BK335, HB⟩ := hrel
    cases gk with
    | zero => exact absurd HA.out (by simp [signalbenchref44_Check.l0])
    | succ k1 =>
     have H := HA.out
     clear HA
     simp only [signalbenchref44_Check.l0] at H
     by_cases c10 : x3_1 < (l0_0.length : Int)
     ·
      rw [if_pos c10] at H
      have c10b0 : decide (x3_1 < (l0_0.length : Int)) = true := decide_eq_true c10
      clear c10
      by_cases c11 : 0 ≤ x3_1
      ·
       rw [if_pos c11] at H
       have c11b0 : decide (0 ≤ x3_1) = true := decide_eq_true c11
       clear c11
       replace H := Option.bind_eq_some_iff.mp H
       obtain ⟨t337, A120, H⟩ := H
       replace H : (if t337 = 0 then (signalbenchref44_Check.l0 k1 (wrap64 (x3_1 + 1)) l0_0) else (some t337)) = some r := H
       have A12 := Aside0.mk A120
       clear A120
       by_cases c13 : t337 = 0
       ·
        rw [if_pos c13] at H
        have c13b0 : (t337 == 0) = true := beq_iff_eq.mpr c13
        have c13b1 : (t337 != 0) = false := bne_eq_false_iff_eq.mpr c13
        clear c13
        have H' := Aside0.mk H
        clear H
        have hcz14_0 : wr.cell? ⟨gb335, 0, none⟩ = some (.slice A0_0 l0_0.length c0_0) := (blk_cell BK335.out 0).trans rfl
        have hfz14_0 := blk_frozen BK335.out 0
        have p336 : 0 ≤ (x3_1 : Int) := of_decide_eq_true (by first | (with_reducible assumption) | assumption)
        have q336 : x3_1 < (l0_0.length : Int) := of_decide_eq_true (by first | (with_reducible assumption) | assumption)
        obtain ⟨ad336, e336, hx336_0, hx336_1, hx336_2, hx336_3, hx336_4, hx336_5, hx336_6, hx336_7, hx336_8, hx336_9, hx336_10, hx336_11⟩ := at_T50 HR0_0.out x3_1 p336 q336
        cases e336
        replace hx336_0 := pw_cell_below HB.out hx336_0
        replace hx336_1 := pw_cell_below HB.out hx336_1
        replace hx336_2 := pw_cell_below HB.out hx336_2
        replace hx336_3 := pw_cell_below HB.out hx336_3
        replace hx336_4 := pw_cell_below HB.out hx336_4
        replace hx336_5 := pw_cell_below HB.out hx336_5
        replace hx336_6 := pw_cell_below HB.out hx336_6
        replace hx336_7 := pw_cell_below HB.out hx336_7
        replace hx336_8 := pw_cell_below HB.out hx336_8
        replace hx336_9 := pw_cell_below HB.out hx336_9
        replace hx336_10 := pw_cell_below HB.out hx336_10
        replace hx336_11 := pw_cell_below HB.out hx336_11
        replace p336 := eq_true p336
        replace q336 := eq_true q336
        go_wp2_with (first | ((with_reducible refine gate_callee (f := 45) rfl ?_); refine goesL_ (some 27) rfl rfl Try.func45 (by kernel_rfl) rfl #[.agg #[.int .i64 ((rd_T50 l0_0 x3_1).f0.f0), .int .i64 ((rd_T50 l0_0 x3_1).f0.f1), .int .i64 ((rd_T50 l0_0 x3_1).f0.f2), .int .i64 ((rd_T50 l0_0 x3_1).f0.f3), .int .i64 ((rd_T50 l0_0 x3_1).f0.f4), .int .i64 ((rd_T50 l0_0 x3_1).f1), .bool ((rd_T50 l0_0 x3_1).f2), .int .i64 ((rd_T50 l0_0 x3_1).f3.f0), .int .i64 ((rd_T50 l0_0 x3_1).f3.f1), .int .i64 ((rd_T50 l0_0 x3_1).f3.f2), .int .i64 ((rd_T50 l0_0 x3_1).f3.f3), .int .i64 ((rd_T50 l0_0 x3_1).f3.f4)], .bool (x3_1 == 0)] rfl (by (try simp only [List.map_toArray, List.map_cons, List.map_nil]); first | done | rfl | (simp only [List.length_drop, List.length_take]; rfl)) ?_; (with_reducible refine (signalbenchref44_wrongStep.calls k1 ((rd_T50 l0_0 x3_1).f0.f0) ((rd_T50 l0_0 x3_1).f0.f1) ((rd_T50 l0_0 x3_1).f0.f2) ((rd_T50 l0_0 x3_1).f0.f3) ((rd_T50 l0_0 x3_1).f0.f4) ((rd_T50 l0_0 x3_1).f1) ((rd_T50 l0_0 x3_1).f2) ((rd_T50 l0_0 x3_1).f3.f0) ((rd_T50 l0_0 x3_1).f3.f1) ((rd_T50 l0_0 x3_1).f3.f2) ((rd_T50 l0_0 x3_1).f3.f3) ((rd_T50 l0_0 x3_1).f3.f4) (x3_1 == 0) t337 _ A12.out).mono ?_); rintro e w15 ⟨rfl, hb⟩; refine ⟨_, rfl, ?_⟩; have n0_ := Aside0.mk (blk_below (bg BK335.out) hb); have n1_ := Aside0.mk (below_step (bs HB.out) hb); clear BK335; clear HB; have BK335 := n0_; have HB := n1_; clear n0_ n1_; (try clear hb); (try clear hb2); (try clear hk); (try clear hi)))
        go_roundg k1
        case measure => have := HK1.out; omega
        case rel => exact ⟨(wrap64 (x3_1 + 1)), (by first | rfl | (simp; done) | (simp [*]; done)), H', ⟨by have := HK1.out; omega⟩, ⟨bg BK335.out⟩, ⟨bs HB.out⟩⟩
       ·
        rw [if_neg c13] at H
        have c13b0 : (t337 == 0) = false := beq_eq_false_iff_ne.mpr c13
        have c13b1 : (t337 != 0) = true := bne_iff_ne.mpr c13
        obtain rfl := Option.some.inj H
        have hcz16_0 : wr.cell? ⟨gb335, 0, none⟩ = some (.slice A0_0 l0_0.length c0_0) := (blk_cell BK335.out 0).trans rfl
        have hfz16_0 := blk_frozen BK335.out 0
        have p336 : 0 ≤ (x3_1 : Int) := of_decide_eq_true (by first | (with_reducible assumption) | assumption)
        have q336 : x3_1 < (l0_0.length : Int) := of_decide_eq_true (by first | (with_reducible assumption) | assumption)
        obtain ⟨ad336, e336, hx336_0, hx336_1, hx336_2, hx336_3, hx336_4, hx336_5, hx336_6, hx336_7, hx336_8, hx336_9, hx336_10, hx336_11⟩ := at_T50 HR0_0.out x3_1 p336 q336
        cases e336
        replace hx336_0 := pw_cell_below HB.out hx336_0
        replace hx336_1 := pw_cell_below HB.out hx336_1
        replace hx336_2 := pw_cell_below HB.out hx336_2
        replace hx336_3 := pw_cell_below HB.out hx336_3
        replace hx336_4 := pw_cell_below HB.out hx336_4
        replace hx336_5 := pw_cell_below HB.out hx336_5
        replace hx336_6 := pw_cell_below HB.out hx336_6
        replace hx336_7 := pw_cell_below HB.out hx336_7
        replace hx336_8 := pw_cell_below HB.out hx336_8
        replace hx336_9 := pw_cell_below HB.out hx336_9
        replace hx336_10 := pw_cell_below HB.out hx336_10
        replace hx336_11 := pw_cell_below HB.out hx336_11
        replace p336 := eq_true p336
        replace q336 := eq_true q336
        go_wp2_with (first | ((with_reducible refine gate_callee (f := 45) rfl ?_); refine goesL_ (some 27) rfl rfl Try.func45 (by kernel_rfl) rfl #[.agg #[.int .i64 ((rd_T50 l0_0 x3_1).f0.f0), .int .i64 ((rd_T50 l0_0 x3_1).f0.f1), .int .i64 ((rd_T50 l0_0 x3_1).f0.f2), .int .i64 ((rd_T50 l0_0 x3_1).f0.f3), .int .i64 ((rd_T50 l0_0 x3_1).f0.f4), .int .i64 ((rd_T50 l0_0 x3_1).f1), .bool ((rd_T50 l0_0 x3_1).f2), .int .i64 ((rd_T50 l0_0 x3_1).f3.f0), .int .i64 ((rd_T50 l0_0 x3_1).f3.f1), .int .i64 ((rd_T50 l0_0 x3_1).f3.f2), .int .i64 ((rd_T50 l0_0 x3_1).f3.f3), .int .i64 ((rd_T50 l0_0 x3_1).f3.f4)], .bool (x3_1 == 0)] rfl (by (try simp only [List.map_toArray, List.map_cons, List.map_nil]); first | done | rfl | (simp only [List.length_drop, List.length_take]; rfl)) ?_; (with_reducible refine (signalbenchref44_wrongStep.calls k1 ((rd_T50 l0_0 x3_1).f0.f0) ((rd_T50 l0_0 x3_1).f0.f1) ((rd_T50 l0_0 x3_1).f0.f2) ((rd_T50 l0_0 x3_1).f0.f3) ((rd_T50 l0_0 x3_1).f0.f4) ((rd_T50 l0_0 x3_1).f1) ((rd_T50 l0_0 x3_1).f2) ((rd_T50 l0_0 x3_1).f3.f0) ((rd_T50 l0_0 x3_1).f3.f1) ((rd_T50 l0_0 x3_1).f3.f2) ((rd_T50 l0_0 x3_1).f3.f3) ((rd_T50 l0_0 x3_1).f3.f4) (x3_1 == 0) t337 _ A12.out).mono ?_); rintro e w17 ⟨rfl, hb⟩; refine ⟨_, rfl, ?_⟩; have n0_ := Aside0.mk (blk_below (bg BK335.out) hb); have n1_ := Aside0.mk (below_step (bs HB.out) hb); clear BK335; clear HB; have BK335 := n0_; have HB := n1_; clear n0_ n1_; (try clear hb); (try clear hb2); (try clear hk); (try clear hi)))
        go_ret
        exact ⟨by first | rfl | (simp [errW_none, errW_some] <;> rfl) | (simp [*, errW_none, errW_some] <;> rfl), bs HB.out⟩
      ·
       rw [if_neg c11] at H
       exact absurd H (by simp)
     ·
      rw [if_neg c10] at H
      have c10b0 : decide (x3_1 < (l0_0.length : Int)) = false := decide_eq_false c10
      clear c10
      obtain rfl := Option.some.inj H
      have hcz18_0 : wr.cell? ⟨gb335, 0, none⟩ = some (.slice A0_0 l0_0.length c0_0) := (blk_cell BK335.out 0).trans rfl
      have hfz18_0 := blk_frozen BK335.out 0
      go_wp2
      go_ret
      exact ⟨by first | rfl | (simp [errW_none, errW_some] <;> rfl) | (simp [*, errW_none, errW_some] <;> rfl), bs HB.out⟩

end Go.Proofs.Ytgdjiphljadlcaa.K
