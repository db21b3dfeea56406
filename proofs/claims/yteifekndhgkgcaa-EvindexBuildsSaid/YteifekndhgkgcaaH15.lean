-- Printed by wip/hprint.py (this project's own driver of the kit's print) out of the translation; Lean checks it.
import Derived.Test.YteifekndhgkgcaaH0
import Derived.Test.YteifekndhgkgcaaH14
namespace Go.Proofs.Yteifekndhgkgcaa.H
open Go.RowKit Go.Proofs.YteifekndhgkgcaaW.PrintWords Go.Proofs.YteifekndhgkgcaaW.PrintLast Go.Proofs.YteifekndhgkgcaaW.PrintMore
attribute [local go_sem] max2_int min2_int max_two min_two max_three min_three max_four min_four   -- for this text's walks alone
set_option linter.unusedVariables false
set_option linter.unusedSimpArgs false

/-! ### signalbenchref46_Candidates: function 22 -/
mutual
def signalbenchref46_Candidates.l0 : Nat → List Int → Int → Int → List (S43) → Int → Int → Int → Int → Int → Option (List Int)
 | 0, _, _, _, _, _, _, _, _, _ => none
 | k + 1, x5, x6, x225000, x225001, x226000, x226001, x226002, x226003, x226004 => if x6 < (x225001.length : Int) then (if 0 ≤ x6 then (if ((rd_T43 x225001 x6).f0) = x226000 then (if x226001 = 0 then (signalbenchref46_Candidates.j1 k x5 x6 true x225000 x225001 x226000 x226001 x226002 x226003 x226004 ((rd_T43 x225001 x6).f0) ((rd_T43 x225001 x6).f1) ((rd_T43 x225001 x6).f2)) else (signalbenchref46_Candidates.j1 k x5 x6 (((rd_T43 x225001 x6).f1) == x226001) x225000 x225001 x226000 x226001 x226002 x226003 x226004 ((rd_T43 x225001 x6).f0) ((rd_T43 x225001 x6).f1) ((rd_T43 x225001 x6).f2))) else (signalbenchref46_Candidates.j1 k x5 x6 false x225000 x225001 x226000 x226001 x226002 x226003 x226004 ((rd_T43 x225001 x6).f0) ((rd_T43 x225001 x6).f1) ((rd_T43 x225001 x6).f2))) else (none)) else (some x5)
def signalbenchref46_Candidates.j1 : Nat → List Int → Int → Bool → Int → List (S43) → Int → Int → Int → Int → Int → Int → Int → List Int → Option (List Int)
 | 0, _, _, _, _, _, _, _, _, _, _, _, _, _ => none
 | k + 1, x5, x6, x42, x225000, x225001, x226000, x226001, x226002, x226003, x226004, x231000, x231001, x231002 => if x42 = true then (signalbenchref46_Candidates.l1 k x5 x6 0 x225000 x225001 x226000 x226001 x226002 x226003 x226004 x231000 x231001 x231002) else (signalbenchref46_Candidates.l0 k x5 (wrap64 (x6 + 1)) x225000 x225001 x226000 x226001 x226002 x226003 x226004)
def signalbenchref46_Candidates.l1 : Nat → List Int → Int → Int → Int → List (S43) → Int → Int → Int → Int → Int → Int → Int → List Int → Option (List Int)
 | 0, _, _, _, _, _, _, _, _, _, _, _, _, _ => none
 | k + 1, x5, x6, x8, x225000, x225001, x226000, x226001, x226002, x226003, x226004, x231000, x231001, x231002 => if x8 < (x231002.length : Int) then (if 0 ≤ x8 then ((signalbenchref46_insert.f k x5 (rd x231002 x8)).bind fun t232 => (signalbenchref46_Candidates.l1 k t232 x6 (wrap64 (x8 + 1)) x225000 x225001 x226000 x226001 x226002 x226003 x226004 x231000 x231001 x231002)) else (none)) else (signalbenchref46_Candidates.l0 k x5 (wrap64 (x6 + 1)) x225000 x225001 x226000 x226001 x226002 x226003 x226004)
end
def signalbenchref46_Candidates.f (k : Nat) (a0_0 : Int) (l0_1 : List (S43)) (a1_0 : Int) (a1_1 : Int) (a1_2 : Int) (a1_3 : Int) (a1_4 : Int) : Option (List Int) := (some (([] : List Int) : List Int)).bind fun y226 => (if a1_0 = (-1) then (some y226) else (signalbenchref46_Candidates.l0 k y226 0 a0_0 l0_1 a1_0 a1_1 a1_2 a1_3 a1_4))
set_option maxHeartbeats 8000000 in
set_option maxRecDepth 100000 in
theorem signalbenchref46_Candidates.calls (k : Nat) (a0_0 : Int) (A0_1 : Option Addr) (c0_1 : Nat) (l0_1 : List (S43)) (a1_0 : Int) (a1_1 : Int) (a1_2 : Int) (a1_3 : Int) (a1_4 : Int) (r : List Int) (w : World) (hr0_1 : Kd.C k43 w A0_1 l0_1.length l0_1) (hc0_1 : l0_1.length ≤ c0_1) (h : signalbenchref46_Candidates.f k a0_0 l0_1 a1_0 a1_1 a1_2 a1_3 a1_4 = some r) :
  Calls Try.prog 22 #[.agg #[.int .i64 a0_0, .slice A0_1 l0_1.length c0_1], .agg #[.int .i64 a1_0, .int .i64 a1_1, .int .i64 a1_2, .int .i64 a1_3, .int .i64 a1_4]] w fun e w' => ∃ v0_ : Value, e = .returned (v0_) ∧ Kd.R (Kd.int .i64) 3 w' w.heap.size (fun _ => True) v0_ r ∧ Below w.heap.size w w' := by
 have hu27 := Try.underlying27
 have hu34 := Try.underlying34
 have hu43 := Try.underlying43
 have HR0_1 := Aside0.mk hr0_1
 have HC0_1 := Aside0.mk hc0_1
 clear hr0_1 hc0_1
 have HB := Aside0.mk (Below.refl w.heap.size w)
 have H : ((some (([] : List Int) : List Int)).bind fun y226 => (if a1_0 = (-1) then (some y226) else (signalbenchref46_Candidates.l0 k y226 0 a0_0 l0_1 a1_0 a1_1 a1_2 a1_3 a1_4))) = some r := h
 clear h
 obtain ⟨y226, hy226⟩ : ∃ y_ : List Int, y_ = (([] : List Int)) := ⟨_, rfl⟩
 replace H : (if a1_0 = (-1) then (some y226) else (signalbenchref46_Candidates.l0 k y226 0 a0_0 l0_1 a1_0 a1_1 a1_2 a1_3 a1_4)) = some r := by first | (rw [hy226]; with_reducible exact H) | (have H2_ := (Option.bind_some _ _).symm.trans H; rw [hy226]; with_reducible exact H2_) | (have H2_ := (Option.bind_some _ _).symm.trans H; with_reducible exact H2_) | with_reducible exact H | (rw [hy226]; exact H) | exact H
 have Ny226 := Aside0.mk hy226
 clear hy226
 by_cases c3 : a1_0 = (-1)
 ·
  rw [if_pos c3] at H
  have c3b0 : (a1_0 == (-1)) = true := beq_iff_eq.mpr c3
  have c3b1 : (a1_0 != (-1)) = false := bne_eq_false_iff_eq.mpr c3
  clear c3
  obtain rfl := Option.some.inj H
  go_enter Try.func22, Try.ntmps22
  go_wp2_with (first | ((with_reducible refine gate_dst (N := 2) rfl ?_); refine box_event ?hg (N := 2) ?hd (cs := #[.int .i64 a0_0, .slice A0_1 l0_1.length c0_1]) (t := 27) ?hr ?_; (case hd => rfl); (case hg => rfl); (case hr => first | (go_simp; done) | (go_simp; rfl)); intro gb224 hg w4 hbox hb; have n0_ := Aside0.mk (below_step (bs HB.out) hb); have n1_ := Aside0.mk (hbox); have n2_ := Aside0.mk ((by rw [hg]; exact (below_size (bs HB.out)) : w.heap.size ≤ gb224)); have n3_ := n2_; clear HB; have HB := n0_; have BK224 := n1_; have GW224 := n2_; have GE224 := n3_; clear n0_ n1_ n2_ n3_; clear hb hbox hg) | ((with_reducible refine gate_dst (N := 3) rfl ?_); refine box_event ?hg (N := 3) ?hd (cs := #[.int .i64 a1_0, .int .i64 a1_1, .int .i64 a1_2, .int .i64 a1_3, .int .i64 a1_4]) (t := 34) ?hr ?_; (case hd => rfl); (case hg => rfl); (case hr => first | (go_simp; done) | (go_simp; rfl)); intro gb225 hg w5 hbox hb; have n0_ := Aside0.mk (blk_below (bg BK224.out) hb); have n1_ := Aside0.mk (below_step (bs HB.out) hb); have n2_ := Aside0.mk (hbox); have n3_ := Aside0.mk ((by rw [hg]; exact (below_size (bs HB.out)) : w.heap.size ≤ gb225)); have n4_ := n3_; have n5_ := Aside0.mk ((by rw [hg]; exact Nat.ne_of_lt (blk_lt (bg BK224.out)) : gb224 ≠ gb225)); have n6_ := Aside0.mk ((by rw [hg]; exact Nat.ne_of_gt (blk_lt (bg BK224.out)) : gb225 ≠ gb224)); clear BK224; clear HB; have BK224 := n0_; have HB := n1_; have BK225 := n2_; have GW225 := n3_; have GE225 := n4_; have NB224_225 := n5_; have NB225_224 := n6_; clear n0_ n1_ n2_ n3_ n4_ n5_ n6_; clear hb hbox hg) | ((with_reducible refine gate_dst (N := 9) rfl ?_); refine Kd.R_lit (Kd.int .i64) _ 3 ?hg (N := 9) ?hd (xs := ([] : List Int)) (inner := []) (ok := fun _ => True) (okp := fun _ => True) ?hr ?hp (fun _ hk => hk) trivial (Below.refl _ _) (Nat.le_refl _) (by simp) ?_; (case hd => rfl); (case hg => rfl); (case hr => first | (go_simp; done) | (go_simp; rfl)); (case hp => exact (Reps.none _ _)); intro v227 w6 ho7 hb hg_ hnew_; clear hg_ hnew_; (first | rw [← Ny226.out] at ho7 | (simp only [Int.reduceToNat] at ho7; rw [← Ny226.out] at ho7)); have n0_ := Aside0.mk (Kd.R_lower ho7 (below_size (bs HB.out))); have n1_ := Aside0.mk (blk_below (bg BK224.out) hb); have n2_ := Aside0.mk (blk_below (bg BK225.out) hb); have n3_ := Aside0.mk (below_step (bs HB.out) hb); clear BK224; clear BK225; clear HB; have HO228 := n0_; have BK224 := n1_; have BK225 := n2_; have HB := n3_; clear n0_ n1_ n2_ n3_; clear hb ho7; have hnb8 := NB225_224.out; have hnc8 := NB224_225.out; obtain ⟨hcz9_0, hcz9_1, hcz9_2, hcz9_3, hcz9_4⟩ := bc5 BK225.out; obtain ⟨hfz9_0, hfz9_1, hfz9_2, hfz9_3, hfz9_4⟩ := bf5 BK225.out))
  go_ret
  exact ⟨_, by first | rfl | (simp [errW_none, errW_some] <;> rfl) | (simp [*, errW_none, errW_some] <;> rfl), by (with_reducible repeat (first | apply Kd.R_alloc | apply Kd.R_drewN | apply Kd.R_drew)); exact HO228.out, bs HB.out⟩
 ·
  rw [if_neg c3] at H
  have c3b0 : (a1_0 == (-1)) = false := beq_eq_false_iff_ne.mpr c3
  have c3b1 : (a1_0 != (-1)) = true := bne_iff_ne.mpr c3
  have H' := Aside0.mk H
  clear H
  go_enter Try.func22, Try.ntmps22
  go_wp2_with (first | ((with_reducible refine gate_dst (N := 2) rfl ?_); refine box_event ?hg (N := 2) ?hd (cs := #[.int .i64 a0_0, .slice A0_1 l0_1.length c0_1]) (t := 27) ?hr ?_; (case hd => rfl); (case hg => rfl); (case hr => first | (go_simp; done) | (go_simp; rfl)); intro gb224 hg w10 hbox hb; have n0_ := Aside0.mk (below_step (bs HB.out) hb); have n1_ := Aside0.mk (hbox); have n2_ := Aside0.mk ((by rw [hg]; exact (below_size (bs HB.out)) : w.heap.size ≤ gb224)); have n3_ := n2_; clear HB; have HB := n0_; have BK224 := n1_; have GW224 := n2_; have GE224 := n3_; clear n0_ n1_ n2_ n3_; clear hb hbox hg) | ((with_reducible refine gate_dst (N := 3) rfl ?_); refine box_event ?hg (N := 3) ?hd (cs := #[.int .i64 a1_0, .int .i64 a1_1, .int .i64 a1_2, .int .i64 a1_3, .int .i64 a1_4]) (t := 34) ?hr ?_; (case hd => rfl); (case hg => rfl); (case hr => first | (go_simp; done) | (go_simp; rfl)); intro gb225 hg w11 hbox hb; have n0_ := Aside0.mk (blk_below (bg BK224.out) hb); have n1_ := Aside0.mk (below_step (bs HB.out) hb); have n2_ := Aside0.mk (hbox); have n3_ := Aside0.mk ((by rw [hg]; exact (below_size (bs HB.out)) : w.heap.size ≤ gb225)); have n4_ := n3_; have n5_ := Aside0.mk ((by rw [hg]; exact Nat.ne_of_lt (blk_lt (bg BK224.out)) : gb224 ≠ gb225)); have n6_ := Aside0.mk ((by rw [hg]; exact Nat.ne_of_gt (blk_lt (bg BK224.out)) : gb225 ≠ gb224)); clear BK224; clear HB; have BK224 := n0_; have HB := n1_; have BK225 := n2_; have GW225 := n3_; have GE225 := n4_; have NB224_225 := n5_; have NB225_224 := n6_; clear n0_ n1_ n2_ n3_ n4_ n5_ n6_; clear hb hbox hg) | ((with_reducible refine gate_dst (N := 9) rfl ?_); refine Kd.R_lit (Kd.int .i64) _ 3 ?hg (N := 9) ?hd (xs := ([] : List Int)) (inner := []) (ok := fun _ => True) (okp := fun _ => True) ?hr ?hp (fun _ hk => hk) trivial (Below.refl _ _) (Nat.le_refl _) (by simp) ?_; (case hd => rfl); (case hg => rfl); (case hr => first | (go_simp; done) | (go_simp; rfl)); (case hp => exact (Reps.none _ _)); intro v227 w12 ho13 hb hg_ hnew_; clear hg_ hnew_; (first | rw [← Ny226.out] at ho13 | (simp only [Int.reduceToNat] at ho13; rw [← Ny226.out] at ho13)); have n0_ := Aside0.mk (Kd.R_lower ho13 (below_size (bs HB.out))); have n1_ := Aside0.mk (blk_below (bg BK224.out) hb); have n2_ := Aside0.mk (blk_below (bg BK225.out) hb); have n3_ := Aside0.mk (below_step (bs HB.out) hb); clear BK224; clear BK225; clear HB; have HO228 := n0_; have BK224 := n1_; have BK225 := n2_; have HB := n3_; clear n0_ n1_ n2_ n3_; clear hb ho13; have hnb14 := NB225_224.out; have hnc14 := NB224_225.out; obtain ⟨hcz15_0, hcz15_1, hcz15_2, hcz15_3, hcz15_4⟩ := bc5 BK225.out; obtain ⟨hfz15_0, hfz15_1, hfz15_2, hfz15_3, hfz15_4⟩ := bf5 BK225.out))
  go_loopg [5, 6] k (fun kq v5 v6 w' => ∃ (x5_1 : List Int) (x6_1 : Int), v6 = .int .i64 x6_1 ∧ Aside0 (signalbenchref46_Candidates.l0 kq x5_1 x6_1 a0_0 l0_1 a1_0 a1_1 a1_2 a1_3 a1_4 = some r) ∧ Aside0 (kq ≤ k) ∧ Aside0 (Kd.R (Kd.int .i64) 3 w' w.heap.size (fun _ => True) v5 x5_1) ∧ Aside0 (w'.heap[gb224]? = some (.cells #[.int .i64 a0_0, (.slice A0_1 l0_1.length c0_1)] 27 (0, 0))) ∧ Aside0 (w'.heap[gb225]? = some (.cells #[.int .i64 a1_0, .int .i64 a1_1, .int .i64 a1_2, .int .i64 a1_3, .int .i64 a1_4] 34 (0, 0))) ∧ Aside0 (Below w.heap.size w w'))
  case atStart => exact ⟨(y226), (0), (by first | rfl | (simp; done) | (simp [*]; done)), H', ⟨Nat.le_refl _⟩, ⟨by (with_reducible repeat (first | apply Kd.R_alloc | apply Kd.R_drewN | apply Kd.R_drew)); exact HO228.out⟩, ⟨bg BK224.out⟩, ⟨bg BK225.out⟩, ⟨bs HB.out⟩⟩
  case round =>
   clear H'
   try clear c1
   try clear c2
   try clear p2
   try clear c3
   try clear c3b0
   try clear c3b1
   try clear c8
   try clear c14
   try clear hcz15_0 hcz15_1 hcz15_2 hcz15_3 hcz15_4
   try clear hcz9_0 hcz9_1 hcz9_2 hcz9_3 hcz9_4
   try clear hfz15_0 hfz15_1 hfz15_2 hfz15_3 hfz15_4
   try clear hfz9_0 hfz9_1 hfz9_2 hfz9_3 hfz9_4
   obtain ⟨x5_1, x6_1, rfl, HA, HK1, HO_5, BK224, BK225, HB⟩ := hrel
   cases gk with
   | zero => exact absurd HA.out (by simp [signalbenchref46_Candidates.l0])
   | succ k1 =>
    have H := HA.out
    clear HA
    simp only [signalbenchref46_Candidates.l0] at H
    by_cases c16 : x6_1 < (l0_1.length : Int)
    ·
     rw [if_pos c16] at H
     have c16b0 : decide (x6_1 < (l0_1.length : Int)) = true := decide_eq_true c16
     clear c16
     by_cases c17 : 0 ≤ x6_1
     ·
      rw [if_pos c17] at H
      have c17b0 : decide (0 ≤ x6_1) = true := decide_eq_true c17
      clear c17
      have HC18 := Aside0.mk H
      clear H
      have hnb19 := NB224_225.out
      have hnc19 := NB225_224.out
      obtain ⟨hcz20_0, hcz20_1⟩ := bc2 BK224.out
      obtain ⟨hfz20_0, hfz20_1⟩ := bf2 BK224.out
      have p229 : 0 ≤ (x6_1 : Int) := of_decide_eq_true (by first | (with_reducible assumption) | assumption)
      have q229 : x6_1 < (l0_1.length : Int) := of_decide_eq_true (by first | (with_reducible assumption) | assumption)
      obtain ⟨ad229, A229_2, c229_2, e229, hx229_0, hx229_1, hx229_2, hl229_2, hi229_2⟩ := at_T43 HR0_1.out x6_1 p229 q229
      cases e229
      replace hx229_0 := pw_cell_below HB.out hx229_0
      replace hx229_1 := pw_cell_below HB.out hx229_1
      replace hx229_2 := pw_cell_below HB.out hx229_2
      have HR229_2 := Aside0.mk hi229_2
      have HC229_2 := Aside0.mk hl229_2
      clear hi229_2 hl229_2
      replace p229 := eq_true p229
      replace q229 := eq_true q229
      go_upto_region 8 with (first | ((with_reducible refine gate_dst (N := 7) rfl ?_); refine box_event ?hg (N := 7) ?hd (cs := #[.int .i64 0, .int .i64 0, .slice none 0 0]) (t := 43) ?hr ?_; (case hd => rfl); (case hg => rfl); (case hr => first | (go_simp; done) | (go_simp; rfl)); intro gb230 hg w21 hbox hb; have n0_ := Aside0.mk (Kd.R_below (rq HO_5.out) hb); have n1_ := Aside0.mk (blk_below (bg BK224.out) hb); have n2_ := Aside0.mk (blk_below (bg BK225.out) hb); have n3_ := Aside0.mk (below_step (bs HB.out) hb); have n4_ := Aside0.mk (hbox); have n5_ := Aside0.mk ((by rw [hg]; exact (below_size (bs HB.out)) : w.heap.size ≤ gb230)); have n6_ := n5_; have n7_ := Aside0.mk ((by rw [hg]; exact Nat.ne_of_lt (blk_lt (bg BK224.out)) : gb224 ≠ gb230)); have n8_ := Aside0.mk ((by rw [hg]; exact Nat.ne_of_gt (blk_lt (bg BK224.out)) : gb230 ≠ gb224)); have n9_ := Aside0.mk ((by rw [hg]; exact Nat.ne_of_lt (blk_lt (bg BK225.out)) : gb225 ≠ gb230)); have n10_ := Aside0.mk ((by rw [hg]; exact Nat.ne_of_gt (blk_lt (bg BK225.out)) : gb230 ≠ gb225)); clear HO_5; clear BK224; clear BK225; clear HB; have HO_5 := n0_; have BK224 := n1_; have BK225 := n2_; have HB := n3_; have BK230 := n4_; have GW230 := n5_; have GE230 := n6_; have NB224_230 := n7_; have NB230_224 := n8_; have NB225_230 := n9_; have NB230_225 := n10_; clear n0_ n1_ n2_ n3_ n4_ n5_ n6_ n7_ n8_ n9_ n10_; clear hb hbox hg; have hnb22 := NB230_224.out; have hnc22 := NB224_230.out; have hnb23 := NB230_225.out; have hnc23 := NB225_230.out; obtain ⟨hcz24_0, hcz24_1, hcz24_2⟩ := bc3 BK230.out; obtain ⟨hfz24_0, hfz24_1, hfz24_2⟩ := bf3 BK230.out))
      (try simp only [Act.put, List.setIfInBounds_toArray, List.set_cons_zero, List.set_cons_succ])
      go_cut [42] (fun v42 wc => ∃ (kq : Nat) (x42_17 : Bool), v42 = .bool x42_17 ∧ Aside0 (signalbenchref46_Candidates.j1 kq x5_1 x6_1 x42_17 a0_0 l0_1 a1_0 a1_1 a1_2 a1_3 a1_4 ((rd_T43 l0_1 x6_1).f0) ((rd_T43 l0_1 x6_1).f1) ((rd_T43 l0_1 x6_1).f2) = some r) ∧ Aside0 (kq ≤ k1) ∧ Aside0 (Kd.R (Kd.int .i64) 3 wc w.heap.size (fun _ => True) u5 x5_1) ∧ Aside0 (wc.heap[gb224]? = some (.cells #[.int .i64 a0_0, (.slice (some ad229) l0_1.length c0_1)] 27 (0, 0))) ∧ Aside0 (wc.heap[gb225]? = some (.cells #[.int .i64 a1_0, .int .i64 a1_1, .int .i64 a1_2, .int .i64 a1_3, .int .i64 a1_4] 34 (0, 0))) ∧ Aside0 (wc.heap[gb230]? = some (.cells #[.int .i64 ((rd_T43 l0_1 x6_1).f0), .int .i64 ((rd_T43 l0_1 x6_1).f1), (.slice A229_2 ((rd_T43 l0_1 x6_1).f2).length c229_2)] 43 (0, 0))) ∧ Aside0 (Below w.heap.size w wc))
      case first =>
       have H := HC18.out
       clear HC18
       by_cases c25 : ((rd_T43 l0_1 x6_1).f0) = a1_0
       ·
        rw [if_pos c25] at H
        have c25b0 : (((rd_T43 l0_1 x6_1).f0) == a1_0) = true := beq_iff_eq.mpr c25
        have c25b1 : (((rd_T43 l0_1 x6_1).f0) != a1_0) = false := bne_eq_false_iff_eq.mpr c25
        clear c25
        (first | rw [c25b0] | (simp only [i64_w, i32_w]; rw [c25b0]) | skip)
        by_cases c26 : a1_1 = 0
        ·
         rw [if_pos c26] at H
         have c26b0 : (a1_1 == 0) = true := beq_iff_eq.mpr c26
         have c26b1 : (a1_1 != 0) = false := bne_eq_false_iff_eq.mpr c26
         clear c26
         have H' := Aside0.mk H
         clear H
         have hnb27 := NB230_224.out
         have hnc27 := NB224_230.out
         have hnb28 := NB230_225.out
         have hnc28 := NB225_230.out
         obtain ⟨hcz29_0, hcz29_1, hcz29_2⟩ := bc3 BK230.out
         obtain ⟨hfz29_0, hfz29_1, hfz29_2⟩ := bf3 BK230.out
         have hnb30 := NB225_224.out
         have hnc30 := NB224_225.out
         obtain ⟨hcz31_0, hcz31_1, hcz31_2, hcz31_3, hcz31_4⟩ := bc5 BK225.out
         obtain ⟨hfz31_0, hfz31_1, hfz31_2, hfz31_3, hfz31_4⟩ := bf5 BK225.out
         go_wp2
         go_meet
         case rel => exact ⟨_, (true), (by first | rfl | (simp; done) | (simp [*]; done)), H', ⟨by have := HK1.out; first | omega | exact Nat.le_refl _⟩, ⟨by (with_reducible repeat (first | apply Kd.R_alloc | apply Kd.R_drewN | apply Kd.R_drew)); exact Kd.R_mono (Kd.R_far (p := ⟨gb230, 2, none⟩) (Kd.R_far (p := ⟨gb230, 1, none⟩) (Kd.R_far (p := ⟨gb230, 0, none⟩) (Kd.R_types HO_5.out BK230.out (by decide)) (fun _ hk => hk.2) (.int .i64 ((rd_T43 l0_1 x6_1).f0))) (fun _ hk => hk.2) (.int .i64 ((rd_T43 l0_1 x6_1).f1))) (fun _ hk => hk.2) (.slice A229_2 ((rd_T43 l0_1 x6_1).f2).length c229_2)) (fun _ hk => trivial)⟩, ⟨by (iterate 3 (with_reducible repeat (first | refine blk_drewN ?_ _ | refine blk_drew ?_ | refine blk_alloc ?_ _)); refine blk_far ?_ NB224_230.out _); exact bg BK224.out⟩, ⟨by (iterate 3 (with_reducible repeat (first | refine blk_drewN ?_ _ | refine blk_drew ?_ | refine blk_alloc ?_ _)); refine blk_far ?_ NB225_230.out _); exact bg BK225.out⟩, ⟨by exact pt3 (bg BK230.out)⟩, ⟨bs HB.out⟩⟩
        ·
         rw [if_neg c26] at H
         have c26b0 : (a1_1 == 0) = false := beq_eq_false_iff_ne.mpr c26
         have c26b1 : (a1_1 != 0) = true := bne_iff_ne.mpr c26
         have H' := Aside0.mk H
         clear H
         have hnb32 := NB230_224.out
         have hnc32 := NB224_230.out
         have hnb33 := NB230_225.out
         have hnc33 := NB225_230.out
         obtain ⟨hcz34_0, hcz34_1, hcz34_2⟩ := bc3 BK230.out
         obtain ⟨hfz34_0, hfz34_1, hfz34_2⟩ := bf3 BK230.out
         have hnb35 := NB225_224.out
         have hnc35 := NB224_225.out
         obtain ⟨hcz36_0, hcz36_1, hcz36_2, hcz36_3, hcz36_4⟩ := bc5 BK225.out
         obtain ⟨hfz36_0, hfz36_1, hfz36_2, hfz36_3, hfz36_4⟩ := bf5 BK225.out
         go_wp2
         go_meet
         case rel => exact ⟨_, ((((rd_T43 l0_1 x6_1).f1) == a1_1)), (by first | rfl | (simp; done) | (simp [*]; done)), H', ⟨by have := HK1.out; first | omega | exact Nat.le_refl _⟩, ⟨by (with_reducible repeat (first | apply Kd.R_alloc | apply Kd.R_drewN | apply Kd.R_drew)); exact Kd.R_mono (Kd.R_far (p := ⟨gb230, 2, none⟩) (Kd.R_far (p := ⟨gb230, 1, none⟩) (Kd.R_far (p := ⟨gb230, 0, none⟩) (Kd.R_types HO_5.out BK230.out (by decide)) (fun _ hk => hk.2) (.int .i64 ((rd_T43 l0_1 x6_1).f0))) (fun _ hk => hk.2) (.int .i64 ((rd_T43 l0_1 x6_1).f1))) (fun _ hk => hk.2) (.slice A229_2 ((rd_T43 l0_1 x6_1).f2).length c229_2)) (fun _ hk => trivial)⟩, ⟨by (iterate 3 (with_reducible repeat (first | refine blk_drewN ?_ _ | refine blk_drew ?_ | refine blk_alloc ?_ _)); refine blk_far ?_ NB224_230.out _); exact bg BK224.out⟩, ⟨by (iterate 3 (with_reducible repeat (first | refine blk_drewN ?_ _ | refine blk_drew ?_ | refine blk_alloc ?_ _)); refine blk_far ?_ NB225_230.out _); exact bg BK225.out⟩, ⟨by exact pt3 (bg BK230.out)⟩, ⟨bs HB.out⟩⟩
       ·
        rw [if_neg c25] at H
        have c25b0 : (((rd_T43 l0_1 x6_1).f0) == a1_0) = false := beq_eq_false_iff_ne.mpr c25
        have c25b1 : (((rd_T43 l0_1 x6_1).f0) != a1_0) = true := bne_iff_ne.mpr c25
        (first | rw [c25b0] | (simp only [i64_w, i32_w]; rw [c25b0]) | skip)
        have H' := Aside0.mk H
        clear H
        have hnb37 := NB230_224.out
        have hnc37 := NB224_230.out
        have hnb38 := NB230_225.out
        have hnc38 := NB225_230.out
        obtain ⟨hcz39_0, hcz39_1, hcz39_2⟩ := bc3 BK230.out
        obtain ⟨hfz39_0, hfz39_1, hfz39_2⟩ := bf3 BK230.out
        have hnb40 := NB225_224.out
        have hnc40 := NB224_225.out
        obtain ⟨hcz41_0, hcz41_1, hcz41_2, hcz41_3, hcz41_4⟩ := bc5 BK225.out
        obtain ⟨hfz41_0, hfz41_1, hfz41_2, hfz41_3, hfz41_4⟩ := bf5 BK225.out
        go_wp2
        go_meet
        case rel => exact ⟨_, (false), (by first | rfl | (simp; done) | (simp [*]; done)), H', ⟨by have := HK1.out; first | omega | exact Nat.le_refl _⟩, ⟨by (with_reducible repeat (first | apply Kd.R_alloc | apply Kd.R_drewN | apply Kd.R_drew)); exact Kd.R_mono (Kd.R_far (p := ⟨gb230, 2, none⟩) (Kd.R_far (p := ⟨gb230, 1, none⟩) (Kd.R_far (p := ⟨gb230, 0, none⟩) (Kd.R_types HO_5.out BK230.out (by decide)) (fun _ hk => hk.2) (.int .i64 ((rd_T43 l0_1 x6_1).f0))) (fun _ hk => hk.2) (.int .i64 ((rd_T43 l0_1 x6_1).f1))) (fun _ hk => hk.2) (.slice A229_2 ((rd_T43 l0_1 x6_1).f2).length c229_2)) (fun _ hk => trivial)⟩, ⟨by (iterate 3 (with_reducible repeat (first | refine blk_drewN ?_ _ | refine blk_drew ?_ | refine blk_alloc ?_ _)); refine blk_far ?_ NB224_230.out _); exact bg BK224.out⟩, ⟨by (iterate 3 (with_reducible repeat (first | refine blk_drewN ?_ _ | refine blk_drew ?_ | refine blk_alloc ?_ _)); refine blk_far ?_ NB225_230.out _); exact bg BK225.out⟩, ⟨by exact pt3 (bg BK230.out)⟩, ⟨bs HB.out⟩⟩
      case rest =>
       clear HC18
       try clear c1
       try clear c2
       try clear p2
       try clear q2
       try clear hx2
       try clear c3
       try clear c3b0
       try clear c3b1
       try clear c4
       try clear c8
       try clear c14
       try clear c16
       try clear c16b0
       try clear c17
       try clear c17b0
       try clear c19
       try clear c22
       try clear p22
       try clear q22
       try clear hx22
       try clear c23
       try clear c25
       try clear c25b0
       try clear c25b1
       try clear c26
       try clear c26b0
       try clear c26b1
       try clear c27
       try clear c28
       try clear c30
       try clear c32
       try clear c33
       try clear c35
       try clear c37
       try clear c38
       try clear c40
       try clear hcz15_0 hcz15_1 hcz15_2 hcz15_3 hcz15_4
       try clear hcz20_0 hcz20_1
       try clear hcz24_0 hcz24_1 hcz24_2
       try clear hcz29_0 hcz29_1 hcz29_2
       try clear hcz31_0 hcz31_1 hcz31_2 hcz31_3 hcz31_4
       try clear hcz34_0 hcz34_1 hcz34_2
       try clear hcz36_0 hcz36_1 hcz36_2 hcz36_3 hcz36_4
       try clear hcz39_0 hcz39_1 hcz39_2
       try clear hcz41_0 hcz41_1 hcz41_2 hcz41_3 hcz41_4
       try clear hcz9_0 hcz9_1 hcz9_2 hcz9_3 hcz9_4
       try clear hfz15_0 hfz15_1 hfz15_2 hfz15_3 hfz15_4
       try clear hfz20_0 hfz20_1
       try clear hfz24_0 hfz24_1 hfz24_2
       try clear hfz29_0 hfz29_1 hfz29_2
       try clear hfz31_0 hfz31_1 hfz31_2 hfz31_3 hfz31_4
       try clear hfz34_0 hfz34_1 hfz34_2
       try clear hfz36_0 hfz36_1 hfz36_2 hfz36_3 hfz36_4
       try clear hfz39_0 hfz39_1 hfz39_2
       try clear hfz41_0 hfz41_1 hfz41_2 hfz41_3 hfz41_4
       try clear hfz9_0 hfz9_1 hfz9_2 hfz9_3 hfz9_4
       try clear hx229_0
       try clear hx229_1
       try clear hx229_2
       try clear p2
       try clear p229
       try clear q229
       obtain ⟨kq, x42_17, rfl, HA, HJ17, HO_5, BK224, BK225, BK230, HB⟩ := hcut
       cases kq with
       | zero => exact absurd HA.out (by simp [signalbenchref46_Candidates.j1])
       | succ kj17 =>
        have H := HA.out
        clear HA
        simp only [signalbenchref46_Candidates.j1] at H
        by_cases c42 : x42_17 = true
        ·
         subst c42
         have H1 : (signalbenchref46_Candidates.l1 kj17 x5_1 x6_1 0 a0_0 l0_1 a1_0 a1_1 a1_2 a1_3 a1_4 ((rd_T43 l0_1 x6_1).f0) ((rd_T43 l0_1 x6_1).f1) ((rd_T43 l0_1 x6_1).f2)) = some r := by rw [if_pos rfl] at H; exact H
         clear H
         have H := H1
         clear H1
         have H' := Aside0.mk H
         clear H
         go_wp2
         go_loopg [5, 8] kj17 (fun kq v5 v8 w' => ∃ (x5_3 : List Int) (x8_3 : Int), v8 = .int .i64 x8_3 ∧ Aside0 (signalbenchref46_Candidates.l1 kq x5_3 x6_1 x8_3 a0_0 l0_1 a1_0 a1_1 a1_2 a1_3 a1_4 ((rd_T43 l0_1 x6_1).f0) ((rd_T43 l0_1 x6_1).f1) ((rd_T43 l0_1 x6_1).f2) = some r) ∧ Aside0 (kq ≤ kj17) ∧ Aside0 (Kd.R (Kd.int .i64) 3 w' w.heap.size (fun _ => True) v5 x5_3) ∧ Aside0 (w'.heap[gb224]? = some (.cells #[.int .i64 a0_0, (.slice (some ad229) l0_1.length c0_1)] 27 (0, 0))) ∧ Aside0 (w'.heap[gb225]? = some (.cells #[.int .i64 a1_0, .int .i64 a1_1, .int .i64 a1_2, .int .i64 a1_3, .int .i64 a1_4] 34 (0, 0))) ∧ Aside0 (w'.heap[gb230]? = some (.cells #[.int .i64 ((rd_T43 l0_1 x6_1).f0), .int .i64 ((rd_T43 l0_1 x6_1).f1), (.slice A229_2 ((rd_T43 l0_1 x6_1).f2).length c229_2)] 43 (0, 0))) ∧ Aside0 (Below w.heap.size w w'))
         case atStart => exact ⟨(x5_1), (0), (by first | rfl | (simp; done) | (simp [*]; done)), H', ⟨Nat.le_refl _⟩, ⟨by (with_reducible repeat (first | apply Kd.R_alloc | apply Kd.R_drewN | apply Kd.R_drew)); exact HO_5.out⟩, ⟨bg BK224.out⟩, ⟨bg BK225.out⟩, ⟨bg BK230.out⟩, ⟨bs HB.out⟩⟩
         case round =>
          clear H'
          try clear c1
          try clear c2
          try clear p2
          try clear q2
          try clear hx2
          try clear c3
          try clear c3b0
          try clear c3b1
          try clear c4
          try clear c8
          try clear c14
          try clear c16
          try clear c16b0
          try clear c17
          try clear c17b0
          try clear c19
          try clear c22
          try clear p22
          try clear q22
          try clear hx22
          try clear c23
          try clear c25
          try clear c25b0
          try clear c25b1
          try clear c26
          try clear c26b0
          try clear c26b1
          try clear c27
          try clear c28
          try clear c30
          try clear c32
          try clear c33
          try clear c35
          try clear c37
          try clear c38
          try clear c40
          try clear c42
          try clear hcz15_0 hcz15_1 hcz15_2 hcz15_3 hcz15_4
          try clear hcz20_0 hcz20_1
          try clear hcz24_0 hcz24_1 hcz24_2
          try clear hcz29_0 hcz29_1 hcz29_2
          try clear hcz31_0 hcz31_1 hcz31_2 hcz31_3 hcz31_4
          try clear hcz34_0 hcz34_1 hcz34_2
          try clear hcz36_0 hcz36_1 hcz36_2 hcz36_3 hcz36_4
          try clear hcz39_0 hcz39_1 hcz39_2
          try clear hcz41_0 hcz41_1 hcz41_2 hcz41_3 hcz41_4
          try clear hcz9_0 hcz9_1 hcz9_2 hcz9_3 hcz9_4
          try clear hfz15_0 hfz15_1 hfz15_2 hfz15_3 hfz15_4
          try clear hfz20_0 hfz20_1
          try clear hfz24_0 hfz24_1 hfz24_2
          try clear hfz29_0 hfz29_1 hfz29_2
          try clear hfz31_0 hfz31_1 hfz31_2 hfz31_3 hfz31_4
          try clear hfz34_0 hfz34_1 hfz34_2
          try clear hfz36_0 hfz36_1 hfz36_2 hfz36_3 hfz36_4
          try clear hfz39_0 hfz39_1 hfz39_2
          try clear hfz41_0 hfz41_1 hfz41_2 hfz41_3 hfz41_4
          try clear hfz9_0 hfz9_1 hfz9_2 hfz9_3 hfz9_4
          try clear hx229_0
          try clear hx229_1
          try clear hx229_2
          try clear p2
          try clear p22
          try clear p229
          try clear q2
          try clear q22
          try clear q229
          obtain ⟨x5_3, x8_3, rfl, HA, HK3, HO_5, BK224, BK225, BK230, HB⟩ := hrel
          cases gk with
          | zero => exact absurd HA.out (by simp [signalbenchref46_Candidates.l1])
          | succ k3 =>
           have H := HA.out
           clear HA
           simp only [signalbenchref46_Candidates.l1] at H
           by_cases c43 : x8_3 < (((rd_T43 l0_1 x6_1).f2).length : Int)
           ·
            rw [if_pos c43] at H
            have c43b0 : decide (x8_3 < (((rd_T43 l0_1 x6_1).f2).length : Int)) = true := decide_eq_true c43
            clear c43
            by_cases c44 : 0 ≤ x8_3
            ·
             rw [if_pos c44] at H
             have c44b0 : decide (0 ≤ x8_3) = true := decide_eq_true c44
             clear c44
             replace H := Option.bind_eq_some_iff.mp H
             obtain ⟨t232, A450, H⟩ := H
             replace H : (signalbenchref46_Candidates.l1 k3 t232 x6_1 (wrap64 (x8_3 + 1)) a0_0 l0_1 a1_0 a1_1 a1_2 a1_3 a1_4 ((rd_T43 l0_1 x6_1).f0) ((rd_T43 l0_1 x6_1).f1) ((rd_T43 l0_1 x6_1).f2)) = some r := H
             have A45 := Aside0.mk A450
             clear A450
             have H' := Aside0.mk H
             clear H
             have hnb46 := NB230_224.out
             have hnc46 := NB224_230.out
             have hnb47 := NB230_225.out
             have hnc47 := NB225_230.out
             obtain ⟨hcz48_0, hcz48_1, hcz48_2⟩ := bc3 BK230.out
             obtain ⟨hfz48_0, hfz48_1, hfz48_2⟩ := bf3 BK230.out
             have p231 : 0 ≤ (x8_3 : Int) := of_decide_eq_true (by first | (with_reducible assumption) | assumption)
             have q231 : x8_3 < (((rd_T43 l0_1 x6_1).f2).length : Int) := of_decide_eq_true (by first | (with_reducible assumption) | assumption)
             obtain ⟨ad231, e231, hx231_0⟩ := Kd.at_int HR229_2.out x8_3 p231 q231
             cases e231
             replace hx231_0 := pw_cell_below HB.out hx231_0
             replace p231 := eq_true p231
             replace q231 := eq_true q231
             obtain ⟨Ao49, co49, eo49⟩ := Kd.R_slice HO_5.out
             subst eo49
             go_wp2_with (first | ((with_reducible refine gate_callee (f := 32) rfl ?_); refine goesL_ (some 56) rfl rfl Try.func32 (by kernel_rfl) rfl #[.slice Ao49 x5_3.length co49, .int .i64 (rd ((rd_T43 l0_1 x6_1).f2) x8_3)] rfl (by (try simp only [List.map_toArray, List.map_cons, List.map_nil]); first | done | rfl | (simp only [List.length_drop, List.length_take]; rfl)) ?_; (with_reducible refine (signalbenchref46_insert.calls k3 _ _ x5_3 (rd ((rd_T43 l0_1 x6_1).f2) x8_3) t232 _ ?side1 ?side2 A45.out).mono ?_); (case side1 => repeat (first | exact (Kd.R_reads' HO_5.out).2.2 | (with_reducible refine Kd.C_alloc ?_ _) | (with_reducible refine Kd.C_drewN ?_ _) | (with_reducible refine Kd.C_drew ?_))); (case side2 => exact (Kd.R_reads' HO_5.out).2.1); rintro e w50 ⟨v233, rfl, ho0, hb⟩; refine ⟨_, rfl, ?_⟩; have n0_ := Aside0.mk (Kd.R_elder' (rq HO_5.out) (Kd.R_base ho0) hb); have n1_ := Aside0.mk (Kd.R_lower (Kd.R_new' ho0 (Kd.R_lt (rq HO_5.out))) (below_size (bs HB.out))); have n2_ := Aside0.mk (blk_below (bg BK224.out) hb); have n3_ := Aside0.mk (blk_below (bg BK225.out) hb); have n4_ := Aside0.mk (blk_below (bg BK230.out) hb); have n5_ := Aside0.mk (below_step (bs HB.out) hb); clear HO_5; clear BK224; clear BK225; clear BK230; clear HB; have HO_5 := n0_; have HO234 := n1_; have BK224 := n2_; have BK225 := n3_; have BK230 := n4_; have HB := n5_; clear n0_ n1_ n2_ n3_ n4_ n5_; (try clear hb); (try clear hb2); (try clear hk); (try clear hi); (try clear ho0)))
             go_roundg k3
             case measure => have := HK1.out; have := HJ17.out; have := HK3.out; omega
             case rel => exact ⟨(t232), (wrap64 (x8_3 + 1)), (by first | rfl | (simp; done) | (simp [*]; done)), H', ⟨by have := HK1.out; have := HJ17.out; have := HK3.out; omega⟩, ⟨by (with_reducible repeat (first | apply Kd.R_alloc | apply Kd.R_drewN | apply Kd.R_drew)); exact Kd.R_mono HO234.out (fun _ hk => trivial)⟩, ⟨bg BK224.out⟩, ⟨bg BK225.out⟩, ⟨bg BK230.out⟩, ⟨bs HB.out⟩⟩
            ·
             rw [if_neg c44] at H
             exact absurd H (by simp)
           ·
            rw [if_neg c43] at H
            have c43b0 : decide (x8_3 < (((rd_T43 l0_1 x6_1).f2).length : Int)) = false := decide_eq_false c43
            clear c43
            have H' := Aside0.mk H
            clear H
            have hnb51 := NB230_224.out
            have hnc51 := NB224_230.out
            have hnb52 := NB230_225.out
            have hnc52 := NB225_230.out
            obtain ⟨hcz53_0, hcz53_1, hcz53_2⟩ := bc3 BK230.out
            obtain ⟨hfz53_0, hfz53_1, hfz53_2⟩ := bf3 BK230.out
            go_wp2
            go_roundg k3
            case measure => have := HK1.out; have := HJ17.out; have := HK3.out; omega
            case rel => exact ⟨(x5_3), (wrap64 (x6_1 + 1)), (by first | rfl | (simp; done) | (simp [*]; done)), H', ⟨by have := HK1.out; have := HJ17.out; have := HK3.out; omega⟩, ⟨by (with_reducible repeat (first | apply Kd.R_alloc | apply Kd.R_drewN | apply Kd.R_drew)); exact HO_5.out⟩, ⟨bg BK224.out⟩, ⟨bg BK225.out⟩, ⟨bs HB.out⟩⟩
        ·
         replace c42 := Bool.eq_false_iff.mpr c42
         subst c42
         have H1 : (signalbenchref46_Candidates.l0 kj17 x5_1 (wrap64 (x6_1 + 1)) a0_0 l0_1 a1_0 a1_1 a1_2 a1_3 a1_4) = some r := by rw [if_neg (show ¬ (false = true) by decide)] at H; exact H
         clear H
         have H := H1
         clear H1
         have H' := Aside0.mk H
         clear H
         go_wp2
         go_roundg kj17
         case measure => have := HK1.out; have := HJ17.out; omega
         case rel => exact ⟨(x5_1), (wrap64 (x6_1 + 1)), (by first | rfl | (simp; done) | (simp [*]; done)), H', ⟨by have := HK1.out; have := HJ17.out; omega⟩, ⟨by (with_reducible repeat (first | apply Kd.R_alloc | apply Kd.R_drewN | apply Kd.R_drew)); exact HO_5.out⟩, ⟨bg BK224.out⟩, ⟨bg BK225.out⟩, ⟨bs HB.out⟩⟩
     ·
      rw [if_neg c17] at H
      exact absurd H (by simp)
    ·
     rw [if_neg c16] at H
     have c16b0 : decide (x6_1 < (l0_1.length : Int)) = false := decide_eq_false c16
     clear c16
     obtain rfl := Option.some.inj H
     have hnb54 := NB224_225.out
     have hnc54 := NB225_224.out
     obtain ⟨hcz55_0, hcz55_1⟩ := bc2 BK224.out
     obtain ⟨hfz55_0, hfz55_1⟩ := bf2 BK224.out
     go_wp2
     go_ret
     exact ⟨_, by first | rfl | (simp [errW_none, errW_some] <;> rfl) | (simp [*, errW_none, errW_some] <;> rfl), by (with_reducible repeat (first | apply Kd.R_alloc | apply Kd.R_drewN | apply Kd.R_drew)); exact HO_5.out, bs HB.out⟩

end Go.Proofs.Yteifekndhgkgcaa.H
