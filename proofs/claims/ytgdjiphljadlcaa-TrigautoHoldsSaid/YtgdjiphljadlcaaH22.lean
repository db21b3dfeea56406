-- Printed by wip/hprint.py (this project's own driver of the kit's print) out of the translation; Lean checks it.
import Derived.Test.YtgdjiphljadlcaaH0
import Derived.Test.YtgdjiphljadlcaaH2
namespace Go.Proofs.Ytgdjiphljadlcaa.H
open Go.RowKit Go.Proofs.YtgdjiphljadlcaaW.PrintWords Go.Proofs.YtgdjiphljadlcaaW.PrintLast Go.Proofs.YtgdjiphljadlcaaW.PrintMore
attribute [local go_sem] max2_int min2_int max_two min_two max_three min_three max_four min_four   -- for this text's walks alone
set_option linter.unusedVariables false
set_option linter.unusedSimpArgs false

attribute [local go_sem high] eqA50
/-! ### signalbenchref44_Same: function 18 -/
def signalbenchref44_Same.l0 : Nat → Int → List (S50) → List (S50) → Option (Bool)
 | 0, _, _, _ => none
 | k + 1, x5, x207000, x208000 => if x5 < (x207000.length : Int) then (if 0 ≤ x5 then (if x5 < (x208000.length : Int) then (if ((!(((rd_T50 x207000 x5).f0.f0) == ((rd_T50 x208000 x5).f0.f0)) || (!(((rd_T50 x207000 x5).f0.f1) == ((rd_T50 x208000 x5).f0.f1)) || (!(((rd_T50 x207000 x5).f0.f2) == ((rd_T50 x208000 x5).f0.f2)) || (!(((rd_T50 x207000 x5).f0.f3) == ((rd_T50 x208000 x5).f0.f3)) || (!(((rd_T50 x207000 x5).f0.f4) == ((rd_T50 x208000 x5).f0.f4))))))) || (!(((rd_T50 x207000 x5).f1) == ((rd_T50 x208000 x5).f1)) || (!(((rd_T50 x207000 x5).f2) == ((rd_T50 x208000 x5).f2)) || ((!(((rd_T50 x207000 x5).f3.f0) == ((rd_T50 x208000 x5).f3.f0)) || (!(((rd_T50 x207000 x5).f3.f1) == ((rd_T50 x208000 x5).f3.f1)) || (!(((rd_T50 x207000 x5).f3.f2) == ((rd_T50 x208000 x5).f3.f2)) || (!(((rd_T50 x207000 x5).f3.f3) == ((rd_T50 x208000 x5).f3.f3)) || (!(((rd_T50 x207000 x5).f3.f4) == ((rd_T50 x208000 x5).f3.f4))))))))))) = true then (some false) else (signalbenchref44_Same.l0 k (wrap64 (x5 + 1)) x207000 x208000)) else (none)) else (none)) else (some true)
def signalbenchref44_Same.f (k : Nat) (l0_0 : List (S50)) (l1_0 : List (S50)) : Option (Bool) := if (l0_0.length : Int) = (l1_0.length : Int) then (signalbenchref44_Same.l0 k 0 l0_0 l1_0) else (some false)
set_option maxHeartbeats 8000000 in
set_option maxRecDepth 100000 in
theorem signalbenchref44_Same.calls (k : Nat) (A0_0 : Option Addr) (c0_0 : Nat) (l0_0 : List (S50)) (A1_0 : Option Addr) (c1_0 : Nat) (l1_0 : List (S50)) (r : Bool) (w : World) (hr0_0 : Kd.C k50 w A0_0 l0_0.length l0_0) (hc0_0 : l0_0.length ≤ c0_0) (hr1_0 : Kd.C k50 w A1_0 l1_0.length l1_0) (hc1_0 : l1_0.length ≤ c1_0) (h : signalbenchref44_Same.f k l0_0 l1_0 = some r) :
  Calls Try.prog 18 #[.agg #[.slice A0_0 l0_0.length c0_0], .agg #[.slice A1_0 l1_0.length c1_0]] w fun e w' => e = .returned (.bool r) ∧ Below w.heap.size w w' := by
 have hu31 := Try.underlying31
 have hu50 := Try.underlying50
 have HR0_0 := Aside0.mk hr0_0
 have HC0_0 := Aside0.mk hc0_0
 clear hr0_0 hc0_0
 have HR1_0 := Aside0.mk hr1_0
 have HC1_0 := Aside0.mk hc1_0
 clear hr1_0 hc1_0
 have HB := Aside0.mk (Below.refl w.heap.size w)
 have H : (if (l0_0.length : Int) = (l1_0.length : Int) then (signalbenchref44_Same.l0 k 0 l0_0 l1_0) else (some false)) = some r := h
 clear h
 by_cases c3 : (l0_0.length : Int) = (l1_0.length : Int)
 ·
  rw [if_pos c3] at H
  have c3b0 : ((l0_0.length : Int) == (l1_0.length : Int)) = true := beq_iff_eq.mpr c3
  have c3b1 : ((l0_0.length : Int) != (l1_0.length : Int)) = false := bne_eq_false_iff_eq.mpr c3
  have c3b2 : (l0_0.length == l1_0.length) = true := by first | simpa using c3 | (simp at c3 ⊢; omega)
  clear c3
  have H' := Aside0.mk H
  clear H
  go_enter Try.func18, Try.ntmps18
  go_wp2_with (first | ((with_reducible refine gate_dst (N := 2) rfl ?_); refine box_event ?hg (N := 2) ?hd (cs := #[.slice A0_0 l0_0.length c0_0]) (t := 31) ?hr ?_; (case hd => rfl); (case hg => rfl); (case hr => first | (go_simp; done) | (go_simp; rfl)); intro gb206 hg w4 hbox hb; have n0_ := Aside0.mk (below_step (bs HB.out) hb); have n1_ := Aside0.mk (hbox); have n2_ := Aside0.mk ((by rw [hg]; exact (below_size (bs HB.out)) : w.heap.size ≤ gb206)); have n3_ := n2_; clear HB; have HB := n0_; have BK206 := n1_; have GW206 := n2_; have GE206 := n3_; clear n0_ n1_ n2_ n3_; clear hb hbox hg) | ((with_reducible refine gate_dst (N := 3) rfl ?_); refine box_event ?hg (N := 3) ?hd (cs := #[.slice A1_0 l1_0.length c1_0]) (t := 31) ?hr ?_; (case hd => rfl); (case hg => rfl); (case hr => first | (go_simp; done) | (go_simp; rfl)); intro gb207 hg w5 hbox hb; have n0_ := Aside0.mk (blk_below (bg BK206.out) hb); have n1_ := Aside0.mk (below_step (bs HB.out) hb); have n2_ := Aside0.mk (hbox); have n3_ := Aside0.mk ((by rw [hg]; exact (below_size (bs HB.out)) : w.heap.size ≤ gb207)); have n4_ := n3_; have n5_ := Aside0.mk ((by rw [hg]; exact Nat.ne_of_lt (blk_lt (bg BK206.out)) : gb206 ≠ gb207)); have n6_ := Aside0.mk ((by rw [hg]; exact Nat.ne_of_gt (blk_lt (bg BK206.out)) : gb207 ≠ gb206)); clear BK206; clear HB; have BK206 := n0_; have HB := n1_; have BK207 := n2_; have GW207 := n3_; have GE207 := n4_; have NB206_207 := n5_; have NB207_206 := n6_; clear n0_ n1_ n2_ n3_ n4_ n5_ n6_; clear hb hbox hg; have hnb6 := NB206_207.out; have hnc6 := NB207_206.out; have hcz7_0 : w5.cell? ⟨gb206, 0, none⟩ = some (.slice A0_0 l0_0.length c0_0) := (blk_cell BK206.out 0).trans rfl; have hfz7_0 := blk_frozen BK206.out 0; have hcz8_0 : w5.cell? ⟨gb207, 0, none⟩ = some (.slice A1_0 l1_0.length c1_0) := (blk_cell BK207.out 0).trans rfl; have hfz8_0 := blk_frozen BK207.out 0))
  repeat (go_quiet (first | ((with_reducible refine gate_dst (N := 2) rfl ?_); refine box_event ?hg (N := 2) ?hd (cs := #[.slice A0_0 l0_0.length c0_0]) (t := 31) ?hr ?_; (case hd => rfl); (case hg => rfl); (case hr => first | (go_simp; done) | (go_simp; rfl)); intro gb206 hg w4 hbox hb; have n0_ := Aside0.mk (below_step (bs HB.out) hb); have n1_ := Aside0.mk (hbox); have n2_ := Aside0.mk ((by rw [hg]; exact (below_size (bs HB.out)) : w.heap.size ≤ gb206)); have n3_ := n2_; clear HB; have HB := n0_; have BK206 := n1_; have GW206 := n2_; have GE206 := n3_; clear n0_ n1_ n2_ n3_; clear hb hbox hg) | ((with_reducible refine gate_dst (N := 3) rfl ?_); refine box_event ?hg (N := 3) ?hd (cs := #[.slice A1_0 l1_0.length c1_0]) (t := 31) ?hr ?_; (case hd => rfl); (case hg => rfl); (case hr => first | (go_simp; done) | (go_simp; rfl)); intro gb207 hg w5 hbox hb; have n0_ := Aside0.mk (blk_below (bg BK206.out) hb); have n1_ := Aside0.mk (below_step (bs HB.out) hb); have n2_ := Aside0.mk (hbox); have n3_ := Aside0.mk ((by rw [hg]; exact (below_size (bs HB.out)) : w.heap.size ≤ gb207)); have n4_ := n3_; have n5_ := Aside0.mk ((by rw [hg]; exact Nat.ne_of_lt (blk_lt (bg BK206.out)) : gb206 ≠ gb207)); have n6_ := Aside0.mk ((by rw [hg]; exact Nat.ne_of_gt (blk_lt (bg BK206.out)) : gb207 ≠ gb206)); clear BK206; clear HB; have BK206 := n0_; have HB := n1_; have BK207 := n2_; have GW207 := n3_; have GE207 := n4_; have NB206_207 := n5_; have NB207_206 := n6_; clear n0_ n1_ n2_ n3_ n4_ n5_ n6_; clear hb hbox hg; have hnb6 := NB206_207.out; have hnc6 := NB207_206.out; have hcz7_0 : w5.cell? ⟨gb206, 0, none⟩ = some (.slice A0_0 l0_0.length c0_0) := (blk_cell BK206.out 0).trans rfl; have hfz7_0 := blk_frozen BK206.out 0; have hcz8_0 : w5.cell? ⟨gb207, 0, none⟩ = some (.slice A1_0 l1_0.length c1_0) := (blk_cell BK207.out 0).trans rfl; have hfz8_0 := blk_frozen BK207.out 0)); try go_wp2_with (first | ((with_reducible refine gate_dst (N := 2) rfl ?_); refine box_event ?hg (N := 2) ?hd (cs := #[.slice A0_0 l0_0.length c0_0]) (t := 31) ?hr ?_; (case hd => rfl); (case hg => rfl); (case hr => first | (go_simp; done) | (go_simp; rfl)); intro gb206 hg w4 hbox hb; have n0_ := Aside0.mk (below_step (bs HB.out) hb); have n1_ := Aside0.mk (hbox); have n2_ := Aside0.mk ((by rw [hg]; exact (below_size (bs HB.out)) : w.heap.size ≤ gb206)); have n3_ := n2_; clear HB; have HB := n0_; have BK206 := n1_; have GW206 := n2_; have GE206 := n3_; clear n0_ n1_ n2_ n3_; clear hb hbox hg) | ((with_reducible refine gate_dst (N := 3) rfl ?_); refine box_event ?hg (N := 3) ?hd (cs := #[.slice A1_0 l1_0.length c1_0]) (t := 31) ?hr ?_; (case hd => rfl); (case hg => rfl); (case hr => first | (go_simp; done) | (go_simp; rfl)); intro gb207 hg w5 hbox hb; have n0_ := Aside0.mk (blk_below (bg BK206.out) hb); have n1_ := Aside0.mk (below_step (bs HB.out) hb); have n2_ := Aside0.mk (hbox); have n3_ := Aside0.mk ((by rw [hg]; exact (below_size (bs HB.out)) : w.heap.size ≤ gb207)); have n4_ := n3_; have n5_ := Aside0.mk ((by rw [hg]; exact Nat.ne_of_lt (blk_lt (bg BK206.out)) : gb206 ≠ gb207)); have n6_ := Aside0.mk ((by rw [hg]; exact Nat.ne_of_gt (blk_lt (bg BK206.out)) : gb207 ≠ gb206)); clear BK206; clear HB; have BK206 := n0_; have HB := n1_; have BK207 := n2_; have GW207 := n3_; have GE207 := n4_; have NB206_207 := n5_; have NB207_206 := n6_; clear n0_ n1_ n2_ n3_ n4_ n5_ n6_; clear hb hbox hg; have hnb6 := NB206_207.out; have hnc6 := NB207_206.out; have hcz7_0 : w5.cell? ⟨gb206, 0, none⟩ = some (.slice A0_0 l0_0.length c0_0) := (blk_cell BK206.out 0).trans rfl; have hfz7_0 := blk_frozen BK206.out 0; have hcz8_0 : w5.cell? ⟨gb207, 0, none⟩ = some (.slice A1_0 l1_0.length c1_0) := (blk_cell BK207.out 0).trans rfl; have hfz8_0 := blk_frozen BK207.out 0)))
  go_loopg [5] k (fun kq v5 w' => ∃ (x5_1 : Int), v5 = .int .i64 x5_1 ∧ Aside0 (signalbenchref44_Same.l0 kq x5_1 l0_0 l1_0 = some r) ∧ Aside0 (kq ≤ k) ∧ Aside0 (w'.heap[gb206]? = some (.cells #[(.slice A0_0 l0_0.length c0_0)] 31 (0, 0))) ∧ Aside0 (w'.heap[gb207]? = some (.cells #[(.slice A1_0 l1_0.length c1_0)] 31 (0, 0))) ∧ Aside0 (Below w.heap.size w w'))
  case atStart => exact ⟨(0), (by first | rfl | (simp; done) | (simp [*]; done)), H', ⟨Nat.le_refl _⟩, ⟨bg BK206.out⟩, ⟨bg BK207.out⟩, ⟨bs HB.out⟩⟩
  case round =>
   clear H'
   try clear c1
   try clear p2
   try clear c3
   try clear c3b0
   try clear c3b1
   try clear c3b2
   try clear c6
   try clear hcz7_0
   try clear hcz8_0
   try clear hfz7_0
   try clear hfz8_0
   obtain ⟨x5_1, rfl, HA, HK1, BK206, BK207, HB⟩ := hrel
   cases gk with
   | zero => exact absurd HA.out (by simp [signalbenchref44_Same.l0])
   | succ k1 =>
    have H := HA.out
    clear HA
    simp only [signalbenchref44_Same.l0] at H
    by_cases c9 : x5_1 < (l0_0.length : Int)
    ·
     rw [if_pos c9] at H
     have c9b0 : decide (x5_1 < (l0_0.length : Int)) = true := decide_eq_true c9
     clear c9
     by_cases c10 : 0 ≤ x5_1
     ·
      rw [if_pos c10] at H
      have c10b0 : decide (0 ≤ x5_1) = true := decide_eq_true c10
      clear c10
      by_cases c11 : x5_1 < (l1_0.length : Int)
      ·
       rw [if_pos c11] at H
       have c11b0 : decide (x5_1 < (l1_0.length : Int)) = true := decide_eq_true c11
       clear c11
       by_cases c12 : ((!(((rd_T50 l0_0 x5_1).f0.f0) == ((rd_T50 l1_0 x5_1).f0.f0)) || (!(((rd_T50 l0_0 x5_1).f0.f1) == ((rd_T50 l1_0 x5_1).f0.f1)) || (!(((rd_T50 l0_0 x5_1).f0.f2) == ((rd_T50 l1_0 x5_1).f0.f2)) || (!(((rd_T50 l0_0 x5_1).f0.f3) == ((rd_T50 l1_0 x5_1).f0.f3)) || (!(((rd_T50 l0_0 x5_1).f0.f4) == ((rd_T50 l1_0 x5_1).f0.f4))))))) || (!(((rd_T50 l0_0 x5_1).f1) == ((rd_T50 l1_0 x5_1).f1)) || (!(((rd_T50 l0_0 x5_1).f2) == ((rd_T50 l1_0 x5_1).f2)) || ((!(((rd_T50 l0_0 x5_1).f3.f0) == ((rd_T50 l1_0 x5_1).f3.f0)) || (!(((rd_T50 l0_0 x5_1).f3.f1) == ((rd_T50 l1_0 x5_1).f3.f1)) || (!(((rd_T50 l0_0 x5_1).f3.f2) == ((rd_T50 l1_0 x5_1).f3.f2)) || (!(((rd_T50 l0_0 x5_1).f3.f3) == ((rd_T50 l1_0 x5_1).f3.f3)) || (!(((rd_T50 l0_0 x5_1).f3.f4) == ((rd_T50 l1_0 x5_1).f3.f4))))))))))) = true
       ·
        rw [if_pos c12] at H
        have c12b0 : ((!(((rd_T50 l0_0 x5_1).f0.f0) == ((rd_T50 l1_0 x5_1).f0.f0)) || (!(((rd_T50 l0_0 x5_1).f0.f1) == ((rd_T50 l1_0 x5_1).f0.f1)) || (!(((rd_T50 l0_0 x5_1).f0.f2) == ((rd_T50 l1_0 x5_1).f0.f2)) || (!(((rd_T50 l0_0 x5_1).f0.f3) == ((rd_T50 l1_0 x5_1).f0.f3)) || (!(((rd_T50 l0_0 x5_1).f0.f4) == ((rd_T50 l1_0 x5_1).f0.f4))))))) || (!(((rd_T50 l0_0 x5_1).f1) == ((rd_T50 l1_0 x5_1).f1)) || (!(((rd_T50 l0_0 x5_1).f2) == ((rd_T50 l1_0 x5_1).f2)) || ((!(((rd_T50 l0_0 x5_1).f3.f0) == ((rd_T50 l1_0 x5_1).f3.f0)) || (!(((rd_T50 l0_0 x5_1).f3.f1) == ((rd_T50 l1_0 x5_1).f3.f1)) || (!(((rd_T50 l0_0 x5_1).f3.f2) == ((rd_T50 l1_0 x5_1).f3.f2)) || (!(((rd_T50 l0_0 x5_1).f3.f3) == ((rd_T50 l1_0 x5_1).f3.f3)) || (!(((rd_T50 l0_0 x5_1).f3.f4) == ((rd_T50 l1_0 x5_1).f3.f4))))))))))) = true := c12
        clear c12
        obtain rfl := Option.some.inj H
        have hnb13 := NB206_207.out
        have hnc13 := NB207_206.out
        have hcz14_0 : wr.cell? ⟨gb206, 0, none⟩ = some (.slice A0_0 l0_0.length c0_0) := (blk_cell BK206.out 0).trans rfl
        have hfz14_0 := blk_frozen BK206.out 0
        have p208 : 0 ≤ (x5_1 : Int) := of_decide_eq_true (by first | (with_reducible assumption) | assumption)
        have q208 : x5_1 < (l0_0.length : Int) := of_decide_eq_true (by first | (with_reducible assumption) | assumption)
        obtain ⟨ad208, e208, hx208_0, hx208_1, hx208_2, hx208_3, hx208_4, hx208_5, hx208_6, hx208_7, hx208_8, hx208_9, hx208_10, hx208_11⟩ := at_T50 HR0_0.out x5_1 p208 q208
        cases e208
        replace hx208_0 := pw_cell_below HB.out hx208_0
        replace hx208_1 := pw_cell_below HB.out hx208_1
        replace hx208_2 := pw_cell_below HB.out hx208_2
        replace hx208_3 := pw_cell_below HB.out hx208_3
        replace hx208_4 := pw_cell_below HB.out hx208_4
        replace hx208_5 := pw_cell_below HB.out hx208_5
        replace hx208_6 := pw_cell_below HB.out hx208_6
        replace hx208_7 := pw_cell_below HB.out hx208_7
        replace hx208_8 := pw_cell_below HB.out hx208_8
        replace hx208_9 := pw_cell_below HB.out hx208_9
        replace hx208_10 := pw_cell_below HB.out hx208_10
        replace hx208_11 := pw_cell_below HB.out hx208_11
        replace p208 := eq_true p208
        replace q208 := eq_true q208
        have hcz15_0 : wr.cell? ⟨gb207, 0, none⟩ = some (.slice A1_0 l1_0.length c1_0) := (blk_cell BK207.out 0).trans rfl
        have hfz15_0 := blk_frozen BK207.out 0
        have p209 : 0 ≤ (x5_1 : Int) := of_decide_eq_true (by first | (with_reducible assumption) | assumption)
        have q209 : x5_1 < (l1_0.length : Int) := of_decide_eq_true (by first | (with_reducible assumption) | assumption)
        obtain ⟨ad209, e209, hx209_0, hx209_1, hx209_2, hx209_3, hx209_4, hx209_5, hx209_6, hx209_7, hx209_8, hx209_9, hx209_10, hx209_11⟩ := at_T50 HR1_0.out x5_1 p209 q209
        cases e209
        replace hx209_0 := pw_cell_below HB.out hx209_0
        replace hx209_1 := pw_cell_below HB.out hx209_1
        replace hx209_2 := pw_cell_below HB.out hx209_2
        replace hx209_3 := pw_cell_below HB.out hx209_3
        replace hx209_4 := pw_cell_below HB.out hx209_4
        replace hx209_5 := pw_cell_below HB.out hx209_5
        replace hx209_6 := pw_cell_below HB.out hx209_6
        replace hx209_7 := pw_cell_below HB.out hx209_7
        replace hx209_8 := pw_cell_below HB.out hx209_8
        replace hx209_9 := pw_cell_below HB.out hx209_9
        replace hx209_10 := pw_cell_below HB.out hx209_10
        replace hx209_11 := pw_cell_below HB.out hx209_11
        replace p209 := eq_true p209
        replace q209 := eq_true q209
        go_wp2
        repeat (go_quiet (fail); try go_wp2)
        go_ret
        exact ⟨by first | rfl | (simp [errW_none, errW_some] <;> rfl) | (simp [*, errW_none, errW_some] <;> rfl), bs HB.out⟩
       ·
        rw [if_neg c12] at H
        have c12b0 : ((!(((rd_T50 l0_0 x5_1).f0.f0) == ((rd_T50 l1_0 x5_1).f0.f0)) || (!(((rd_T50 l0_0 x5_1).f0.f1) == ((rd_T50 l1_0 x5_1).f0.f1)) || (!(((rd_T50 l0_0 x5_1).f0.f2) == ((rd_T50 l1_0 x5_1).f0.f2)) || (!(((rd_T50 l0_0 x5_1).f0.f3) == ((rd_T50 l1_0 x5_1).f0.f3)) || (!(((rd_T50 l0_0 x5_1).f0.f4) == ((rd_T50 l1_0 x5_1).f0.f4))))))) || (!(((rd_T50 l0_0 x5_1).f1) == ((rd_T50 l1_0 x5_1).f1)) || (!(((rd_T50 l0_0 x5_1).f2) == ((rd_T50 l1_0 x5_1).f2)) || ((!(((rd_T50 l0_0 x5_1).f3.f0) == ((rd_T50 l1_0 x5_1).f3.f0)) || (!(((rd_T50 l0_0 x5_1).f3.f1) == ((rd_T50 l1_0 x5_1).f3.f1)) || (!(((rd_T50 l0_0 x5_1).f3.f2) == ((rd_T50 l1_0 x5_1).f3.f2)) || (!(((rd_T50 l0_0 x5_1).f3.f3) == ((rd_T50 l1_0 x5_1).f3.f3)) || (!(((rd_T50 l0_0 x5_1).f3.f4) == ((rd_T50 l1_0 x5_1).f3.f4))))))))))) = false := by simpa using c12
        clear c12
        have H' := Aside0.mk H
        clear H
        have hnb16 := NB206_207.out
        have hnc16 := NB207_206.out
        have hcz17_0 : wr.cell? ⟨gb206, 0, none⟩ = some (.slice A0_0 l0_0.length c0_0) := (blk_cell BK206.out 0).trans rfl
        have hfz17_0 := blk_frozen BK206.out 0
        have p208 : 0 ≤ (x5_1 : Int) := of_decide_eq_true (by first | (with_reducible assumption) | assumption)
        have q208 : x5_1 < (l0_0.length : Int) := of_decide_eq_true (by first | (with_reducible assumption) | assumption)
        obtain ⟨ad208, e208, hx208_0, hx208_1, hx208_2, hx208_3, hx208_4, hx208_5, hx208_6, hx208_7, hx208_8, hx208_9, hx208_10, hx208_11⟩ := at_T50 HR0_0.out x5_1 p208 q208
        cases e208
        replace hx208_0 := pw_cell_below HB.out hx208_0
        replace hx208_1 := pw_cell_below HB.out hx208_1
        replace hx208_2 := pw_cell_below HB.out hx208_2
        replace hx208_3 := pw_cell_below HB.out hx208_3
        replace hx208_4 := pw_cell_below HB.out hx208_4
        replace hx208_5 := pw_cell_below HB.out hx208_5
        replace hx208_6 := pw_cell_below HB.out hx208_6
        replace hx208_7 := pw_cell_below HB.out hx208_7
        replace hx208_8 := pw_cell_below HB.out hx208_8
        replace hx208_9 := pw_cell_below HB.out hx208_9
        replace hx208_10 := pw_cell_below HB.out hx208_10
        replace hx208_11 := pw_cell_below HB.out hx208_11
        replace p208 := eq_true p208
        replace q208 := eq_true q208
        have hcz18_0 : wr.cell? ⟨gb207, 0, none⟩ = some (.slice A1_0 l1_0.length c1_0) := (blk_cell BK207.out 0).trans rfl
        have hfz18_0 := blk_frozen BK207.out 0
        have p209 : 0 ≤ (x5_1 : Int) := of_decide_eq_true (by first | (with_reducible assumption) | assumption)
        have q209 : x5_1 < (l1_0.length : Int) := of_decide_eq_true (by first | (with_reducible assumption) | assumption)
        obtain ⟨ad209, e209, hx209_0, hx209_1, hx209_2, hx209_3, hx209_4, hx209_5, hx209_6, hx209_7, hx209_8, hx209_9, hx209_10, hx209_11⟩ := at_T50 HR1_0.out x5_1 p209 q209
        cases e209
        replace hx209_0 := pw_cell_below HB.out hx209_0
        replace hx209_1 := pw_cell_below HB.out hx209_1
        replace hx209_2 := pw_cell_below HB.out hx209_2
        replace hx209_3 := pw_cell_below HB.out hx209_3
        replace hx209_4 := pw_cell_below HB.out hx209_4
        replace hx209_5 := pw_cell_below HB.out hx209_5
        replace hx209_6 := pw_cell_below HB.out hx209_6
        replace hx209_7 := pw_cell_below HB.out hx209_7
        replace hx209_8 := pw_cell_below HB.out hx209_8
        replace hx209_9 := pw_cell_below HB.out hx209_9
        replace hx209_10 := pw_cell_below HB.out hx209_10
        replace hx209_11 := pw_cell_below HB.out hx209_11
        replace p209 := eq_true p209
        replace q209 := eq_true q209
        go_wp2
        repeat (go_quiet (fail); try go_wp2)
        go_roundg k1
        case measure => have := HK1.out; omega
        case rel => exact ⟨(wrap64 (x5_1 + 1)), (by first | rfl | (simp; done) | (simp [*]; done)), H', ⟨by have := HK1.out; omega⟩, ⟨bg BK206.out⟩, ⟨bg BK207.out⟩, ⟨bs HB.out⟩⟩
      ·
       rw [if_neg c11] at H
       exact absurd H (by simp)
     ·
      rw [if_neg c10] at H
      exact absurd H (by simp)
    ·
     rw [if_neg c9] at H
     have c9b0 : decide (x5_1 < (l0_0.length : Int)) = false := decide_eq_false c9
     clear c9
     obtain rfl := Option.some.inj H
     have hnb19 := NB206_207.out
     have hnc19 := NB207_206.out
     have hcz20_0 : wr.cell? ⟨gb206, 0, none⟩ = some (.slice A0_0 l0_0.length c0_0) := (blk_cell BK206.out 0).trans rfl
     have hfz20_0 := blk_frozen BK206.out 0
     go_wp2
     repeat (go_quiet (fail); try go_wp2)
     go_ret
     exact ⟨by first | rfl | (simp [errW_none, errW_some] <;> rfl) | (simp [*, errW_none, errW_some] <;> rfl), bs HB.out⟩
 ·
  rw [if_neg c3] at H
  have c3b0 : ((l0_0.length : Int) == (l1_0.length : Int)) = false := beq_eq_false_iff_ne.mpr c3
  have c3b1 : ((l0_0.length : Int) != (l1_0.length : Int)) = true := bne_iff_ne.mpr c3
  have c3b2 : (l0_0.length == l1_0.length) = false := by first | simpa using c3 | (simp at c3 ⊢; omega)
  obtain rfl := Option.some.inj H
  go_enter Try.func18, Try.ntmps18
  go_wp2_with (first | ((with_reducible refine gate_dst (N := 2) rfl ?_); refine box_event ?hg (N := 2) ?hd (cs := #[.slice A0_0 l0_0.length c0_0]) (t := 31) ?hr ?_; (case hd => rfl); (case hg => rfl); (case hr => first | (go_simp; done) | (go_simp; rfl)); intro gb206 hg w21 hbox hb; have n0_ := Aside0.mk (below_step (bs HB.out) hb); have n1_ := Aside0.mk (hbox); have n2_ := Aside0.mk ((by rw [hg]; exact (below_size (bs HB.out)) : w.heap.size ≤ gb206)); have n3_ := n2_; clear HB; have HB := n0_; have BK206 := n1_; have GW206 := n2_; have GE206 := n3_; clear n0_ n1_ n2_ n3_; clear hb hbox hg) | ((with_reducible refine gate_dst (N := 3) rfl ?_); refine box_event ?hg (N := 3) ?hd (cs := #[.slice A1_0 l1_0.length c1_0]) (t := 31) ?hr ?_; (case hd => rfl); (case hg => rfl); (case hr => first | (go_simp; done) | (go_simp; rfl)); intro gb207 hg w22 hbox hb; have n0_ := Aside0.mk (blk_below (bg BK206.out) hb); have n1_ := Aside0.mk (below_step (bs HB.out) hb); have n2_ := Aside0.mk (hbox); have n3_ := Aside0.mk ((by rw [hg]; exact (below_size (bs HB.out)) : w.heap.size ≤ gb207)); have n4_ := n3_; have n5_ := Aside0.mk ((by rw [hg]; exact Nat.ne_of_lt (blk_lt (bg BK206.out)) : gb206 ≠ gb207)); have n6_ := Aside0.mk ((by rw [hg]; exact Nat.ne_of_gt (blk_lt (bg BK206.out)) : gb207 ≠ gb206)); clear BK206; clear HB; have BK206 := n0_; have HB := n1_; have BK207 := n2_; have GW207 := n3_; have GE207 := n4_; have NB206_207 := n5_; have NB207_206 := n6_; clear n0_ n1_ n2_ n3_ n4_ n5_ n6_; clear hb hbox hg; have hnb23 := NB206_207.out; have hnc23 := NB207_206.out; have hcz24_0 : w22.cell? ⟨gb206, 0, none⟩ = some (.slice A0_0 l0_0.length c0_0) := (blk_cell BK206.out 0).trans rfl; have hfz24_0 := blk_frozen BK206.out 0; have hcz25_0 : w22.cell? ⟨gb207, 0, none⟩ = some (.slice A1_0 l1_0.length c1_0) := (blk_cell BK207.out 0).trans rfl; have hfz25_0 := blk_frozen BK207.out 0))
  repeat (go_quiet (first | ((with_reducible refine gate_dst (N := 2) rfl ?_); refine box_event ?hg (N := 2) ?hd (cs := #[.slice A0_0 l0_0.length c0_0]) (t := 31) ?hr ?_; (case hd => rfl); (case hg => rfl); (case hr => first | (go_simp; done) | (go_simp; rfl)); intro gb206 hg w21 hbox hb; have n0_ := Aside0.mk (below_step (bs HB.out) hb); have n1_ := Aside0.mk (hbox); have n2_ := Aside0.mk ((by rw [hg]; exact (below_size (bs HB.out)) : w.heap.size ≤ gb206)); have n3_ := n2_; clear HB; have HB := n0_; have BK206 := n1_; have GW206 := n2_; have GE206 := n3_; clear n0_ n1_ n2_ n3_; clear hb hbox hg) | ((with_reducible refine gate_dst (N := 3) rfl ?_); refine box_event ?hg (N := 3) ?hd (cs := #[.slice A1_0 l1_0.length c1_0]) (t := 31) ?hr ?_; (case hd => rfl); (case hg => rfl); (case hr => first | (go_simp; done) | (go_simp; rfl)); intro gb207 hg w22 hbox hb; have n0_ := Aside0.mk (blk_below (bg BK206.out) hb); have n1_ := Aside0.mk (below_step (bs HB.out) hb); have n2_ := Aside0.mk (hbox); have n3_ := Aside0.mk ((by rw [hg]; exact (below_size (bs HB.out)) : w.heap.size ≤ gb207)); have n4_ := n3_; have n5_ := Aside0.mk ((by rw [hg]; exact Nat.ne_of_lt (blk_lt (bg BK206.out)) : gb206 ≠ gb207)); have n6_ := Aside0.mk ((by rw [hg]; exact Nat.ne_of_gt (blk_lt (bg BK206.out)) : gb207 ≠ gb206)); clear BK206; clear HB; have BK206 := n0_; have HB := n1_; have BK207 := n2_; have GW207 := n3_; have GE207 := n4_; have NB206_207 := n5_; have NB207_206 := n6_; clear n0_ n1_ n2_ n3_ n4_ n5_ n6_; clear hb hbox hg; have hnb23 := NB206_207.out; have hnc23 := NB207_206.out; have hcz24_0 : w22.cell? ⟨gb206, 0, none⟩ = some (.slice A0_0 l0_0.length c0_0) := (blk_cell BK206.out 0).trans rfl; have hfz24_0 := blk_frozen BK206.out 0; have hcz25_0 : w22.cell? ⟨gb207, 0, none⟩ = some (.slice A1_0 l1_0.length c1_0) := (blk_cell BK207.out 0).trans rfl; have hfz25_0 := blk_frozen BK207.out 0)); try go_wp2_with (first | ((with_reducible refine gate_dst (N := 2) rfl ?_); refine box_event ?hg (N := 2) ?hd (cs := #[.slice A0_0 l0_0.length c0_0]) (t := 31) ?hr ?_; (case hd => rfl); (case hg => rfl); (case hr => first | (go_simp; done) | (go_simp; rfl)); intro gb206 hg w21 hbox hb; have n0_ := Aside0.mk (below_step (bs HB.out) hb); have n1_ := Aside0.mk (hbox); have n2_ := Aside0.mk ((by rw [hg]; exact (below_size (bs HB.out)) : w.heap.size ≤ gb206)); have n3_ := n2_; clear HB; have HB := n0_; have BK206 := n1_; have GW206 := n2_; have GE206 := n3_; clear n0_ n1_ n2_ n3_; clear hb hbox hg) | ((with_reducible refine gate_dst (N := 3) rfl ?_); refine box_event ?hg (N := 3) ?hd (cs := #[.slice A1_0 l1_0.length c1_0]) (t := 31) ?hr ?_; (case hd => rfl); (case hg => rfl); (case hr => first | (go_simp; done) | (go_simp; rfl)); intro gb207 hg w22 hbox hb; have n0_ := Aside0.mk (blk_below (bg BK206.out) hb); have n1_ := Aside0.mk (below_step (bs HB.out) hb); have n2_ := Aside0.mk (hbox); have n3_ := Aside0.mk ((by rw [hg]; exact (below_size (bs HB.out)) : w.heap.size ≤ gb207)); have n4_ := n3_; have n5_ := Aside0.mk ((by rw [hg]; exact Nat.ne_of_lt (blk_lt (bg BK206.out)) : gb206 ≠ gb207)); have n6_ := Aside0.mk ((by rw [hg]; exact Nat.ne_of_gt (blk_lt (bg BK206.out)) : gb207 ≠ gb206)); clear BK206; clear HB; have BK206 := n0_; have HB := n1_; have BK207 := n2_; have GW207 := n3_; have GE207 := n4_; have NB206_207 := n5_; have NB207_206 := n6_; clear n0_ n1_ n2_ n3_ n4_ n5_ n6_; clear hb hbox hg; have hnb23 := NB206_207.out; have hnc23 := NB207_206.out; have hcz24_0 : w22.cell? ⟨gb206, 0, none⟩ = some (.slice A0_0 l0_0.length c0_0) := (blk_cell BK206.out 0).trans rfl; have hfz24_0 := blk_frozen BK206.out 0; have hcz25_0 : w22.cell? ⟨gb207, 0, none⟩ = some (.slice A1_0 l1_0.length c1_0) := (blk_cell BK207.out 0).trans rfl; have hfz25_0 := blk_frozen BK207.out 0)))
  go_ret
  exact ⟨by first | rfl | (simp [errW_none, errW_some] <;> rfl) | (simp [*, errW_none, errW_some] <;> rfl), bs HB.out⟩

end Go.Proofs.Ytgdjiphljadlcaa.H
