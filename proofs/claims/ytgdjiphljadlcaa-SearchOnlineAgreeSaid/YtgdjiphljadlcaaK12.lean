-- Printed by wip/hprint.py (this project's own driver of the kit's print) out of the translation; Lean checks it.
import Derived.Test.YtgdjiphljadlcaaK0
import Derived.Test.YtgdjiphljadlcaaK8
namespace Go.Proofs.Ytgdjiphljadlcaa.K
open Go.RowKit Go.Proofs.YtgdjiphljadlcaaW.PrintWords Go.Proofs.YtgdjiphljadlcaaW.PrintLast Go.Proofs.YtgdjiphljadlcaaW.PrintMore
attribute [local go_sem] max2_int min2_int max_two min_two max_three min_three max_four min_four   -- for this text's walks alone
set_option linter.unusedVariables false
set_option linter.unusedSimpArgs false

/-! ### search_reach: function 78 -/
mutual
def search_reach.l0 : Nat → List Bool → List Bool → Int → List (S46) → Int → Int → Int → Int → Int → Int → Int → Int → Bool → Int → Int → Int → Int → Int → Option (List Bool)
 | 0, _, _, _, _, _, _, _, _, _, _, _, _, _, _, _, _, _, _ => none
 | k + 1, x2, x7, x8, x14, x15, x16, x144000, x144001, x144002, x144003, x144004, x144005, x144006, x144007, x144008, x144009, x144010, x144011 => if x16 < x15 then (if 0 ≤ x16 then (if x16 < (x14.length : Int) then (if x8 ≥ 0 then ((search_satisfies.f k x144000 x144001 x144002 x144003 x144004 ((rd_T46 x14 x16).f0) ((rd_T46 x14 x16).f1) ((rd_T46 x14 x16).f2.f0) ((rd_T46 x14 x16).f2.f1) ((rd_T46 x14 x16).f2.f2) ((rd_T46 x14 x16).f2.f3) ((rd_T46 x14 x16).f2.f4) ((rd_T46 x14 x16).f2.f5) ((rd_T46 x14 x16).f2.f6)).bind fun t149 => (search_reach.j1 k x2 x7 x8 x16 x14 x15 x16 t149 x144000 x144001 x144002 x144003 x144004 x144005 x144006 x144007 x144008 x144009 x144010 x144011 ((rd_T46 x14 x16).f0) ((rd_T46 x14 x16).f1) ((rd_T46 x14 x16).f2.f0) ((rd_T46 x14 x16).f2.f1) ((rd_T46 x14 x16).f2.f2) ((rd_T46 x14 x16).f2.f3) ((rd_T46 x14 x16).f2.f4) ((rd_T46 x14 x16).f2.f5) ((rd_T46 x14 x16).f2.f6))) else (search_reach.j1 k x2 x7 x8 x16 x14 x15 x16 false x144000 x144001 x144002 x144003 x144004 x144005 x144006 x144007 x144008 x144009 x144010 x144011 ((rd_T46 x14 x16).f0) ((rd_T46 x14 x16).f1) ((rd_T46 x14 x16).f2.f0) ((rd_T46 x14 x16).f2.f1) ((rd_T46 x14 x16).f2.f2) ((rd_T46 x14 x16).f2.f3) ((rd_T46 x14 x16).f2.f4) ((rd_T46 x14 x16).f2.f5) ((rd_T46 x14 x16).f2.f6))) else (none)) else (none)) else (some x7)
def search_reach.j1 : Nat → List Bool → List Bool → Int → Int → List (S46) → Int → Int → Bool → Int → Int → Int → Int → Int → Int → Bool → Int → Int → Int → Int → Int → Int → Int → Int → Int → Int → Int → Int → ByteArray → Int → Option (List Bool)
 | 0, _, _, _, _, _, _, _, _, _, _, _, _, _, _, _, _, _, _, _, _, _, _, _, _, _, _, _, _, _ => none
 | k + 1, x2, x7, x8, x9, x14, x15, x16, x28, x144000, x144001, x144002, x144003, x144004, x144005, x144006, x144007, x144008, x144009, x144010, x144011, x149000, x149001, x149002, x149003, x149004, x149005, x149006, x149007, x149008 => if x28 = true then (if x144005 = 0 then (if 0 ≤ x9 then (if x9 < (x7.length : Int) then (search_reach.j2 k x2 (x7.set (x9 : Int).toNat true) x8 x9 x14 x15 x16 x144000 x144001 x144002 x144003 x144004 x144005 x144006 x144007 x144008 x144009 x144010 x144011 x149000 x149001 x149002 x149003 x149004 x149005 x149006 x149007 x149008) else (none)) else (none)) else (if 0 ≤ x9 then (if x9 < (x7.length : Int) then (search_reach.j2 k x2 (x7.set (x9 : Int).toNat (decide ((wrap64 (x149001 - x8)) ≤ x144005))) x8 x9 x14 x15 x16 x144000 x144001 x144002 x144003 x144004 x144005 x144006 x144007 x144008 x144009 x144010 x144011 x149000 x149001 x149002 x149003 x149004 x149005 x149006 x149007 x149008) else (none)) else (none))) else (search_reach.j2 k x2 x7 x8 x9 x14 x15 x16 x144000 x144001 x144002 x144003 x144004 x144005 x144006 x144007 x144008 x144009 x144010 x144011 x149000 x149001 x149002 x149003 x149004 x149005 x149006 x149007 x149008)
def search_reach.j2 : Nat → List Bool → List Bool → Int → Int → List (S46) → Int → Int → Int → Int → Int → Int → Int → Int → Bool → Int → Int → Int → Int → Int → Int → Int → Int → Int → Int → Int → Int → ByteArray → Int → Option (List Bool)
 | 0, _, _, _, _, _, _, _, _, _, _, _, _, _, _, _, _, _, _, _, _, _, _, _, _, _, _, _, _ => none
 | k + 1, x2, x7, x8, x9, x14, x15, x16, x144000, x144001, x144002, x144003, x144004, x144005, x144006, x144007, x144008, x144009, x144010, x144011, x149000, x149001, x149002, x149003, x149004, x149005, x149006, x149007, x149008 => (search_forbids.f k x144000 x144001 x144002 x144003 x144004 x144005 x144006 x144007 x144008 x144009 x144010 x144011 x149000 x149001 x149002 x149003 x149004 x149005 x149006 x149007 x149008).bind fun t152 => (if t152 = true then (if 0 ≤ x9 then (if x9 < (x2.length : Int) then (if rdOf false x2 x9 = true then (search_reach.l0 k x2 x7 (mx (-1) x149001) x14 x15 (wrap64 (x16 + 1)) x144000 x144001 x144002 x144003 x144004 x144005 x144006 x144007 x144008 x144009 x144010 x144011) else (search_reach.l0 k x2 x7 (-1) x14 x15 (wrap64 (x16 + 1)) x144000 x144001 x144002 x144003 x144004 x144005 x144006 x144007 x144008 x144009 x144010 x144011)) else (none)) else (none)) else (if 0 ≤ x9 then (if x9 < (x2.length : Int) then (if rdOf false x2 x9 = true then (search_reach.l0 k x2 x7 (mx x8 x149001) x14 x15 (wrap64 (x16 + 1)) x144000 x144001 x144002 x144003 x144004 x144005 x144006 x144007 x144008 x144009 x144010 x144011) else (search_reach.l0 k x2 x7 x8 x14 x15 (wrap64 (x16 + 1)) x144000 x144001 x144002 x144003 x144004 x144005 x144006 x144007 x144008 x144009 x144010 x144011)) else (none)) else (none)))
end
def search_reach.f (k : Nat) (a0_0 : Int) (a0_1 : Int) (a0_2 : Int) (a0_3 : Int) (a0_4 : Int) (a0_5 : Int) (a0_6 : Bool) (a0_7 : Int) (a0_8 : Int) (a0_9 : Int) (a0_10 : Int) (a0_11 : Int) (l1 : List (S46)) (l2 : List Bool) : Option (List Bool) := if 0 ≤ (l1.length : Int) then (if ((l1.length : Int) : Int).toNat ≤ 281474976710656 then (search_reach.l0 k l2 (List.replicate ((l1.length : Int) : Int).toNat false) (-1) l1 (l1.length : Int) 0 a0_0 a0_1 a0_2 a0_3 a0_4 a0_5 a0_6 a0_7 a0_8 a0_9 a0_10 a0_11) else (none)) else (none)
set_option maxHeartbeats 8000000 in
set_option maxRecDepth 100000 in
theorem search_reach.calls (k : Nat) (a0_0 : Int) (a0_1 : Int) (a0_2 : Int) (a0_3 : Int) (a0_4 : Int) (a0_5 : Int) (a0_6 : Bool) (a0_7 : Int) (a0_8 : Int) (a0_9 : Int) (a0_10 : Int) (a0_11 : Int) (A1 : Option Addr) (c1 : Nat) (l1 : List (S46)) (A2 : Option Addr) (c2 : Nat) (l2 : List Bool) (r : List Bool) (w : World) (hr1 : Kd.C k46 w A1 l1.length l1) (hc1 : l1.length ≤ c1) (hr2 : Kd.C Kd.bool w A2 l2.length l2) (hc2 : l2.length ≤ c2) (h : search_reach.f k a0_0 a0_1 a0_2 a0_3 a0_4 a0_5 a0_6 a0_7 a0_8 a0_9 a0_10 a0_11 l1 l2 = some r) :
  Calls Try.prog 78 #[.agg #[.int .i64 a0_0, .int .i64 a0_1, .int .i64 a0_2, .int .i64 a0_3, .int .i64 a0_4, .int .i64 a0_5, .bool a0_6, .int .i64 a0_7, .int .i64 a0_8, .int .i64 a0_9, .int .i64 a0_10, .int .i64 a0_11], .slice A1 l1.length c1, .slice A2 l2.length c2] w fun e w' => ∃ v0_ : Value, e = .returned (v0_) ∧ Kd.R Kd.bool 4 w' w.heap.size (fun _ => True) v0_ r ∧ Below w.heap.size w w' := by
 have hu50 := Try.underlying50
 have hu46 := Try.underlying46
 have hu42 := Try.underlying42
 have HR1 := Aside0.mk hr1
 have HC1 := Aside0.mk hc1
 clear hr1 hc1
 have HR2 := Aside0.mk hr2
 have HC2 := Aside0.mk hc2
 clear hr2 hc2
 have HB := Aside0.mk (Below.refl w.heap.size w)
 have H : (if 0 ≤ (l1.length : Int) then (if ((l1.length : Int) : Int).toNat ≤ 281474976710656 then (search_reach.l0 k l2 (List.replicate ((l1.length : Int) : Int).toNat false) (-1) l1 (l1.length : Int) 0 a0_0 a0_1 a0_2 a0_3 a0_4 a0_5 a0_6 a0_7 a0_8 a0_9 a0_10 a0_11) else (none)) else (none)) = some r := h
 clear h
 by_cases c4 : 0 ≤ (l1.length : Int)
 ·
  rw [if_pos c4] at H
  have c4b0 := eq_true c4
  have c4b1 : decide (0 ≤ (l1.length : Int)) = true := decide_eq_true c4
  clear c4
  by_cases c5 : ((l1.length : Int) : Int).toNat ≤ 281474976710656
  ·
   rw [if_pos c5] at H
   have c5b0 := eq_true c5
   have c5b1 : decide (((l1.length : Int) : Int).toNat ≤ 281474976710656) = true := decide_eq_true c5
   clear c5
   obtain ⟨y144, hy144⟩ : ∃ y_ : List Bool, y_ = (List.replicate ((l1.length : Int) : Int).toNat false) := ⟨_, rfl⟩
   replace H : (search_reach.l0 k l2 y144 (-1) l1 (l1.length : Int) 0 a0_0 a0_1 a0_2 a0_3 a0_4 a0_5 a0_6 a0_7 a0_8 a0_9 a0_10 a0_11) = some r := by first | (rw [hy144]; with_reducible exact H) | (have H2_ := (Option.bind_some _ _).symm.trans H; rw [hy144]; with_reducible exact H2_) | (have H2_ := (Option.bind_some _ _).symm.trans H; with_reducible exact H2_) | with_reducible exact H | (rw [hy144]; exact H) | exact H
   have Ny144 := Aside0.mk hy144
   clear hy144
   have H' := Aside0.mk H
   clear H
   go_enter Try.func78, Try.ntmps78
   go_wp2_with (first | ((with_reducible refine gate_dst (N := 3) rfl ?_); refine box_event ?hg (N := 3) ?hd (cs := #[.int .i64 a0_0, .int .i64 a0_1, .int .i64 a0_2, .int .i64 a0_3, .int .i64 a0_4, .int .i64 a0_5, .bool a0_6, .int .i64 a0_7, .int .i64 a0_8, .int .i64 a0_9, .int .i64 a0_10, .int .i64 a0_11]) (t := 50) ?hr ?_; (case hd => rfl); (case hg => rfl); (case hr => first | (go_simp; done) | (go_simp; rfl)); intro gb143 hg w6 hbox hb; have n0_ := Aside0.mk (below_step (bs HB.out) hb); have n1_ := Aside0.mk (hbox); have n2_ := Aside0.mk ((by rw [hg]; exact (below_size (bs HB.out)) : w.heap.size ≤ gb143)); have n3_ := n2_; clear HB; have HB := n0_; have BK143 := n1_; have GW143 := n2_; have GE143 := n3_; clear n0_ n1_ n2_ n3_; clear hb hbox hg) | ((with_reducible refine gate_dst (N := 13) rfl ?_); refine Kd.R_make Kd.bool _ 4 rfl (N := 13) rfl 86 _ _ rfl (l1.length : Int) rfl rfl Try.underlying86 (.bool false) 1 info4 rfl (by decide) (by omega) false (ok := fun _ => True) (okp := fun _ => True) rfl (fun _ hk => hk) trivial (of_decide_eq_true (by first | (with_reducible assumption) | assumption)) (Nat.le_trans (Nat.mul_le_mul_right _ (of_decide_eq_true (by first | (with_reducible assumption) | assumption) : (l1.length : Int).toNat ≤ 281474976710656)) (by omega)) (Below.refl _ _) (Nat.le_refl _) ?_; intro v145 w7 ho8 hb hg_ hnew_; clear hg_ hnew_; (first | rw [← Ny144.out] at ho8 | (simp only [Int.reduceToNat] at ho8; rw [← Ny144.out] at ho8)); have n0_ := Aside0.mk (Kd.R_lower ho8 (below_size (bs HB.out))); have n1_ := Aside0.mk (blk_below (bg BK143.out) hb); have n2_ := Aside0.mk (below_step (bs HB.out) hb); clear BK143; clear HB; have HO146 := n0_; have BK143 := n1_; have HB := n2_; clear n0_ n1_ n2_; clear hb ho8))
   go_loopg [8, 16] k (fun kq v8 v16 w' => ∃ (x7_1 : List Bool) (x8_1 : Int) (x16_1 : Int), v8 = .int .i64 x8_1 ∧ v16 = .int .i64 x16_1 ∧ Aside0 (search_reach.l0 kq l2 x7_1 x8_1 l1 (l1.length : Int) x16_1 a0_0 a0_1 a0_2 a0_3 a0_4 a0_5 a0_6 a0_7 a0_8 a0_9 a0_10 a0_11 = some r) ∧ Aside0 (kq ≤ k) ∧ Aside0 (Kd.R Kd.bool 4 w' w.heap.size (fun _ => True) v145 x7_1) ∧ Aside0 (w'.heap[gb143]? = some (.cells #[.int .i64 a0_0, .int .i64 a0_1, .int .i64 a0_2, .int .i64 a0_3, .int .i64 a0_4, .int .i64 a0_5, .bool a0_6, .int .i64 a0_7, .int .i64 a0_8, .int .i64 a0_9, .int .i64 a0_10, .int .i64 a0_11] 50 (0, 0))) ∧ Aside0 (Below w.heap.size w w'))
   case atStart => exact ⟨(y144), ((-1)), (0), (by first | rfl | (simp; done) | (simp [*]; done)), (by first | rfl | (simp; done) | (simp [*]; done)), H', ⟨Nat.le_refl _⟩, ⟨by (with_reducible repeat (first | apply Kd.R_alloc | apply Kd.R_drewN | apply Kd.R_drew)); exact HO146.out⟩, ⟨bg BK143.out⟩, ⟨bs HB.out⟩⟩
   case round =>
    clear H'
    try clear c1
    try clear c2
    try clear p2
    try clear c4
    try clear c4b0
    try clear c4b1
    try clear c5
    try clear c5b0
    try clear c5b1
    try clear c7
    obtain ⟨x7_1, x8_1, x16_1, rfl, rfl, HA, HK1, HO_7, BK143, HB⟩ := hrel
    cases gk with
    | zero => exact absurd HA.out (by simp [search_reach.l0])
    | succ k1 =>
     have H := HA.out
     clear HA
     simp only [search_reach.l0] at H
     by_cases c9 : x16_1 < (l1.length : Int)
     ·
      rw [if_pos c9] at H
      have c9b0 : decide (x16_1 < (l1.length : Int)) = true := decide_eq_true c9
      clear c9
      by_cases c10 : 0 ≤ x16_1
      ·
       rw [if_pos c10] at H
       have c10b0 : decide (0 ≤ x16_1) = true := decide_eq_true c10
       clear c10
       by_cases c11 : x16_1 < (l1.length : Int)
       ·
        rw [if_pos c11] at H
        have c11b0 : decide (x16_1 < (l1.length : Int)) = true := decide_eq_true c11
        clear c11
        have HC12 := Aside0.mk H
        clear H
        have p147 : 0 ≤ (x16_1 : Int) := of_decide_eq_true (by first | (with_reducible assumption) | assumption)
        have q147 : x16_1 < (l1.length : Int) := of_decide_eq_true (by first | (with_reducible assumption) | assumption)
        obtain ⟨ad147, e147, hx147_0, hx147_1, hx147_2, hx147_3, hx147_4, hx147_5, hx147_6, hx147_7, hx147_8⟩ := at_T46 HR1.out x16_1 p147 q147
        cases e147
        replace hx147_0 := pw_cell_below HB.out hx147_0
        replace hx147_1 := pw_cell_below HB.out hx147_1
        replace hx147_2 := pw_cell_below HB.out hx147_2
        replace hx147_3 := pw_cell_below HB.out hx147_3
        replace hx147_4 := pw_cell_below HB.out hx147_4
        replace hx147_5 := pw_cell_below HB.out hx147_5
        replace hx147_6 := pw_cell_below HB.out hx147_6
        replace hx147_7 := pw_cell_below HB.out hx147_7
        replace hx147_8 := pw_cell_below HB.out hx147_8
        replace p147 := eq_true p147
        replace q147 := eq_true q147
        go_upto_region 6 with (first | ((with_reducible refine gate_dst (N := 10) rfl ?_); refine box_event ?hg (N := 10) ?hd (cs := #[.int .i64 0, .int .i64 0, .int .i64 0, .int .i64 0, .int .i64 0, .int .i64 0, .int .i64 0, .string (⟨#[]⟩ : ByteArray), .int .i64 0]) (t := 46) ?hr ?_; (case hd => rfl); (case hg => rfl); (case hr => first | (go_simp; done) | (go_simp; rfl)); intro gb148 hg w13 hbox hb; have n0_ := Aside0.mk (Kd.R_below (rq HO_7.out) hb); have n1_ := Aside0.mk (blk_below (bg BK143.out) hb); have n2_ := Aside0.mk (below_step (bs HB.out) hb); have n3_ := Aside0.mk (hbox); have n4_ := Aside0.mk ((by rw [hg]; exact (below_size (bs HB.out)) : w.heap.size ≤ gb148)); have n5_ := n4_; have n6_ := Aside0.mk ((by rw [hg]; exact Nat.ne_of_lt (blk_lt (bg BK143.out)) : gb143 ≠ gb148)); have n7_ := Aside0.mk ((by rw [hg]; exact Nat.ne_of_gt (blk_lt (bg BK143.out)) : gb148 ≠ gb143)); clear HO_7; clear BK143; clear HB; have HO_7 := n0_; have BK143 := n1_; have HB := n2_; have BK148 := n3_; have GW148 := n4_; have GE148 := n5_; have NB143_148 := n6_; have NB148_143 := n7_; clear n0_ n1_ n2_ n3_ n4_ n5_ n6_ n7_; clear hb hbox hg; have hnb14 := NB148_143.out; have hnc14 := NB143_148.out; obtain ⟨hcz15_0, hcz15_1, hcz15_2, hcz15_3, hcz15_4, hcz15_5, hcz15_6, hcz15_7, hcz15_8⟩ := bc9 BK148.out; obtain ⟨hfz15_0, hfz15_1, hfz15_2, hfz15_3, hfz15_4, hfz15_5, hfz15_6, hfz15_7, hfz15_8⟩ := bf9 BK148.out))
        (try simp only [Act.put, List.setIfInBounds_toArray, List.set_cons_zero, List.set_cons_succ])
        go_cut [28] (fun v28 wc => ∃ (kq : Nat) (x28_11 : Bool), v28 = .bool x28_11 ∧ Aside0 (search_reach.j1 kq l2 x7_1 x8_1 x16_1 l1 (l1.length : Int) x16_1 x28_11 a0_0 a0_1 a0_2 a0_3 a0_4 a0_5 a0_6 a0_7 a0_8 a0_9 a0_10 a0_11 ((rd_T46 l1 x16_1).f0) ((rd_T46 l1 x16_1).f1) ((rd_T46 l1 x16_1).f2.f0) ((rd_T46 l1 x16_1).f2.f1) ((rd_T46 l1 x16_1).f2.f2) ((rd_T46 l1 x16_1).f2.f3) ((rd_T46 l1 x16_1).f2.f4) ((rd_T46 l1 x16_1).f2.f5) ((rd_T46 l1 x16_1).f2.f6) = some r) ∧ Aside0 (kq ≤ k1) ∧ Aside0 (Kd.R Kd.bool 4 wc w.heap.size (fun _ => True) v145 x7_1) ∧ Aside0 (wc.heap[gb143]? = some (.cells #[.int .i64 a0_0, .int .i64 a0_1, .int .i64 a0_2, .int .i64 a0_3, .int .i64 a0_4, .int .i64 a0_5, .bool a0_6, .int .i64 a0_7, .int .i64 a0_8, .int .i64 a0_9, .int .i64 a0_10, .int .i64 a0_11] 50 (0, 0))) ∧ Aside0 (wc.heap[gb148]? = some (.cells #[.int .i64 ((rd_T46 l1 x16_1).f0), .int .i64 ((rd_T46 l1 x16_1).f1), .int .i64 ((rd_T46 l1 x16_1).f2.f0), .int .i64 ((rd_T46 l1 x16_1).f2.f1), .int .i64 ((rd_T46 l1 x16_1).f2.f2), .int .i64 ((rd_T46 l1 x16_1).f2.f3), .int .i64 ((rd_T46 l1 x16_1).f2.f4), .string ((rd_T46 l1 x16_1).f2.f5), .int .i64 ((rd_T46 l1 x16_1).f2.f6)] 46 (0, 0))) ∧ Aside0 (Below w.heap.size w wc))
        case first =>
         have H := HC12.out
         clear HC12
         by_cases c16 : x8_1 ≥ 0
         ·
          rw [if_pos c16] at H
          have c16b0 : decide (0 ≤ x8_1) = true := decide_eq_true c16
          clear c16
          (first | rw [c16b0] | (simp only [i64_w, i32_w]; rw [c16b0]) | skip)
          replace H := Option.bind_eq_some_iff.mp H
          obtain ⟨t149, A170, H⟩ := H
          replace H : (search_reach.j1 k1 l2 x7_1 x8_1 x16_1 l1 (l1.length : Int) x16_1 t149 a0_0 a0_1 a0_2 a0_3 a0_4 a0_5 a0_6 a0_7 a0_8 a0_9 a0_10 a0_11 ((rd_T46 l1 x16_1).f0) ((rd_T46 l1 x16_1).f1) ((rd_T46 l1 x16_1).f2.f0) ((rd_T46 l1 x16_1).f2.f1) ((rd_T46 l1 x16_1).f2.f2) ((rd_T46 l1 x16_1).f2.f3) ((rd_T46 l1 x16_1).f2.f4) ((rd_T46 l1 x16_1).f2.f5) ((rd_T46 l1 x16_1).f2.f6)) = some r := H
          have A17 := Aside0.mk A170
          clear A170
          have H' := Aside0.mk H
          clear H
          have hnb18 := NB143_148.out
          have hnc18 := NB148_143.out
          obtain ⟨hcz19_0, hcz19_1, hcz19_2, hcz19_3, hcz19_4, hcz19_5, hcz19_6, hcz19_7, hcz19_8, hcz19_9, hcz19_10, hcz19_11⟩ := bc12 BK143.out
          obtain ⟨hfz19_0, hfz19_1, hfz19_2, hfz19_3, hfz19_4, hfz19_5, hfz19_6, hfz19_7, hfz19_8, hfz19_9, hfz19_10, hfz19_11⟩ := bf12 BK143.out
          obtain ⟨hcz20_0, hcz20_1, hcz20_2, hcz20_3, hcz20_4, hcz20_5, hcz20_6, hcz20_7, hcz20_8⟩ := bc9 BK148.out
          obtain ⟨hfz20_0, hfz20_1, hfz20_2, hfz20_3, hfz20_4, hfz20_5, hfz20_6, hfz20_7, hfz20_8⟩ := bf9 BK148.out
          go_wp2_with (first | (go_at_call 57; (with_reducible refine (search_satisfies.calls k1 a0_0 a0_1 a0_2 a0_3 a0_4 ((rd_T46 l1 x16_1).f0) ((rd_T46 l1 x16_1).f1) ((rd_T46 l1 x16_1).f2.f0) ((rd_T46 l1 x16_1).f2.f1) ((rd_T46 l1 x16_1).f2.f2) ((rd_T46 l1 x16_1).f2.f3) ((rd_T46 l1 x16_1).f2.f4) ((rd_T46 l1 x16_1).f2.f5) ((rd_T46 l1 x16_1).f2.f6) t149 _ A17.out).mono ?_); rintro e w21 ⟨rfl, hb⟩; have n0_ := Aside0.mk (Kd.R_below (by (with_reducible repeat (first | apply Kd.R_alloc | apply Kd.R_drewN | apply Kd.R_drew)); exact (Kd.R_mono (Kd.R_far (p := ⟨gb148, 8, none⟩) (Kd.R_far (p := ⟨gb148, 7, none⟩) (Kd.R_far (p := ⟨gb148, 6, none⟩) (Kd.R_far (p := ⟨gb148, 5, none⟩) (Kd.R_far (p := ⟨gb148, 4, none⟩) (Kd.R_far (p := ⟨gb148, 3, none⟩) (Kd.R_far (p := ⟨gb148, 2, none⟩) (Kd.R_far (p := ⟨gb148, 1, none⟩) (Kd.R_far (p := ⟨gb148, 0, none⟩) (Kd.R_types HO_7.out BK148.out (by decide)) (fun _ hk => hk.2) (.int .i64 ((rd_T46 l1 x16_1).f0))) (fun _ hk => hk.2) (.int .i64 ((rd_T46 l1 x16_1).f1))) (fun _ hk => hk.2) (.int .i64 ((rd_T46 l1 x16_1).f2.f0))) (fun _ hk => hk.2) (.int .i64 ((rd_T46 l1 x16_1).f2.f1))) (fun _ hk => hk.2) (.int .i64 ((rd_T46 l1 x16_1).f2.f2))) (fun _ hk => hk.2) (.int .i64 ((rd_T46 l1 x16_1).f2.f3))) (fun _ hk => hk.2) (.int .i64 ((rd_T46 l1 x16_1).f2.f4))) (fun _ hk => hk.2) (.string ((rd_T46 l1 x16_1).f2.f5))) (fun _ hk => hk.2) (.int .i64 ((rd_T46 l1 x16_1).f2.f6))) (fun _ h_ => h_.1))) hb); have n1_ := Aside0.mk (blk_below (g := gb143) (o := .cells #[.int .i64 a0_0, .int .i64 a0_1, .int .i64 a0_2, .int .i64 a0_3, .int .i64 a0_4, .int .i64 a0_5, .bool a0_6, .int .i64 a0_7, .int .i64 a0_8, .int .i64 a0_9, .int .i64 a0_10, .int .i64 a0_11] 50 (0, 0)) (by (iterate 9 (with_reducible repeat (first | refine blk_drewN ?_ _ | refine blk_drew ?_ | refine blk_alloc ?_ _)); refine blk_far ?_ NB143_148.out _); exact bg BK143.out) hb); have n2_ := Aside0.mk (blk_below (g := gb148) (o := .cells #[.int .i64 ((rd_T46 l1 x16_1).f0), .int .i64 ((rd_T46 l1 x16_1).f1), .int .i64 ((rd_T46 l1 x16_1).f2.f0), .int .i64 ((rd_T46 l1 x16_1).f2.f1), .int .i64 ((rd_T46 l1 x16_1).f2.f2), .int .i64 ((rd_T46 l1 x16_1).f2.f3), .int .i64 ((rd_T46 l1 x16_1).f2.f4), .string ((rd_T46 l1 x16_1).f2.f5), .int .i64 ((rd_T46 l1 x16_1).f2.f6)] 46 (0, 0)) (by exact pt9 (bg BK148.out)) hb); have n3_ := Aside0.mk (below_step (bs HB.out) hb); clear HO_7; clear BK143; clear BK148; clear HB; have HO_7 := n0_; have BK143 := n1_; have BK148 := n2_; have HB := n3_; clear n0_ n1_ n2_ n3_; (try clear hb); (try clear hb2); (try clear hk); (try clear hi)))
          go_meet
          case rel => exact ⟨_, (t149), (by first | rfl | (simp; done) | (simp [*]; done)), H', ⟨by have := HK1.out; first | omega | exact Nat.le_refl _⟩, ⟨by (with_reducible repeat (first | apply Kd.R_alloc | apply Kd.R_drewN | apply Kd.R_drew)); exact HO_7.out⟩, ⟨bg BK143.out⟩, ⟨bg BK148.out⟩, ⟨bs HB.out⟩⟩
         ·
          rw [if_neg c16] at H
          have c16b0 : decide (0 ≤ x8_1) = false := decide_eq_false c16
          clear c16
          (first | rw [c16b0] | (simp only [i64_w, i32_w]; rw [c16b0]) | skip)
          have H' := Aside0.mk H
          clear H
          go_wp2
          go_meet
          case rel => exact ⟨_, (false), (by first | rfl | (simp; done) | (simp [*]; done)), H', ⟨by have := HK1.out; first | omega | exact Nat.le_refl _⟩, ⟨by (with_reducible repeat (first | apply Kd.R_alloc | apply Kd.R_drewN | apply Kd.R_drew)); exact Kd.R_mono (Kd.R_far (p := ⟨gb148, 8, none⟩) (Kd.R_far (p := ⟨gb148, 7, none⟩) (Kd.R_far (p := ⟨gb148, 6, none⟩) (Kd.R_far (p := ⟨gb148, 5, none⟩) (Kd.R_far (p := ⟨gb148, 4, none⟩) (Kd.R_far (p := ⟨gb148, 3, none⟩) (Kd.R_far (p := ⟨gb148, 2, none⟩) (Kd.R_far (p := ⟨gb148, 1, none⟩) (Kd.R_far (p := ⟨gb148, 0, none⟩) (Kd.R_types HO_7.out BK148.out (by decide)) (fun _ hk => hk.2) (.int .i64 ((rd_T46 l1 x16_1).f0))) (fun _ hk => hk.2) (.int .i64 ((rd_T46 l1 x16_1).f1))) (fun _ hk => hk.2) (.int .i64 ((rd_T46 l1 x16_1).f2.f0))) (fun _ hk => hk.2) (.int .i64 ((rd_T46 l1 x16_1).f2.f1))) (fun _ hk => hk.2) (.int .i64 ((rd_T46 l1 x16_1).f2.f2))) (fun _ hk => hk.2) (.int .i64 ((rd_T46 l1 x16_1).f2.f3))) (fun _ hk => hk.2) (.int .i64 ((rd_T46 l1 x16_1).f2.f4))) (fun _ hk => hk.2) (.string ((rd_T46 l1 x16_1).f2.f5))) (fun _ hk => hk.2) (.int .i64 ((rd_T46 l1 x16_1).f2.f6))) (fun _ hk => trivial)⟩, ⟨by (iterate 9 (with_reducible repeat (first | refine blk_drewN ?_ _ | refine blk_drew ?_ | refine blk_alloc ?_ _)); refine blk_far ?_ NB143_148.out _); exact bg BK143.out⟩, ⟨by exact pt9 (bg BK148.out)⟩, ⟨bs HB.out⟩⟩
        case rest =>
         clear HC12
         try clear c1
         try clear p1
         try clear q1
         try clear hx1
         try clear c2
         try clear p2
         try clear c4
         try clear c4b0
         try clear c4b1
         try clear c5
         try clear c5b0
         try clear c5b1
         try clear c7
         try clear c9
         try clear c9b0
         try clear c10
         try clear c10b0
         try clear c11
         try clear c11b0
         try clear c14
         try clear p14
         try clear q14
         try clear hx14
         try clear c16
         try clear c16b0
         try clear c18
         try clear hcz15_0 hcz15_1 hcz15_2 hcz15_3 hcz15_4 hcz15_5 hcz15_6 hcz15_7 hcz15_8
         try clear hcz19_0 hcz19_1 hcz19_10 hcz19_11 hcz19_2 hcz19_3 hcz19_4 hcz19_5 hcz19_6 hcz19_7 hcz19_8 hcz19_9
         try clear hcz20_0 hcz20_1 hcz20_2 hcz20_3 hcz20_4 hcz20_5 hcz20_6 hcz20_7 hcz20_8
         try clear hfz15_0 hfz15_1 hfz15_2 hfz15_3 hfz15_4 hfz15_5 hfz15_6 hfz15_7 hfz15_8
         try clear hfz19_0 hfz19_1 hfz19_10 hfz19_11 hfz19_2 hfz19_3 hfz19_4 hfz19_5 hfz19_6 hfz19_7 hfz19_8 hfz19_9
         try clear hfz20_0 hfz20_1 hfz20_2 hfz20_3 hfz20_4 hfz20_5 hfz20_6 hfz20_7 hfz20_8
         try clear hx147_0
         try clear hx147_1
         try clear hx147_2
         try clear hx147_3
         try clear hx147_4
         try clear hx147_5
         try clear hx147_6
         try clear hx147_7
         try clear hx147_8
         try clear p147
         try clear p2
         try clear q147
         obtain ⟨kq, x28_11, rfl, HA, HJ11, HO_7, BK143, BK148, HB⟩ := hcut
         cases kq with
         | zero => exact absurd HA.out (by simp [search_reach.j1])
         | succ kj11 =>
          have H := HA.out
          clear HA
          simp only [search_reach.j1] at H
          have HC22 := Aside0.mk H
          clear H
          go_upto_if 28 with (fail)
          go_cut [] (fun wc => ∃ (kq : Nat) (x7_21 : List Bool), Aside0 (search_reach.j2 kq l2 x7_21 x8_1 x16_1 l1 (l1.length : Int) x16_1 a0_0 a0_1 a0_2 a0_3 a0_4 a0_5 a0_6 a0_7 a0_8 a0_9 a0_10 a0_11 ((rd_T46 l1 x16_1).f0) ((rd_T46 l1 x16_1).f1) ((rd_T46 l1 x16_1).f2.f0) ((rd_T46 l1 x16_1).f2.f1) ((rd_T46 l1 x16_1).f2.f2) ((rd_T46 l1 x16_1).f2.f3) ((rd_T46 l1 x16_1).f2.f4) ((rd_T46 l1 x16_1).f2.f5) ((rd_T46 l1 x16_1).f2.f6) = some r) ∧ Aside0 (kq ≤ kj11) ∧ Aside0 (Kd.R Kd.bool 4 wc w.heap.size (fun _ => True) v145 x7_21) ∧ Aside0 (wc.heap[gb143]? = some (.cells #[.int .i64 a0_0, .int .i64 a0_1, .int .i64 a0_2, .int .i64 a0_3, .int .i64 a0_4, .int .i64 a0_5, .bool a0_6, .int .i64 a0_7, .int .i64 a0_8, .int .i64 a0_9, .int .i64 a0_10, .int .i64 a0_11] 50 (0, 0))) ∧ Aside0 (wc.heap[gb148]? = some (.cells #[.int .i64 ((rd_T46 l1 x16_1).f0), .int .i64 ((rd_T46 l1 x16_1).f1), .int .i64 ((rd_T46 l1 x16_1).f2.f0), .int .i64 ((rd_T46 l1 x16_1).f2.f1), .int .i64 ((rd_T46 l1 x16_1).f2.f2), .int .i64 ((rd_T46 l1 x16_1).f2.f3), .int .i64 ((rd_T46 l1 x16_1).f2.f4), .string ((rd_T46 l1 x16_1).f2.f5), .int .i64 ((rd_T46 l1 x16_1).f2.f6)] 46 (0, 0))) ∧ Aside0 (Below w.heap.size w wc))
          case first =>
           have H := HC22.out
           clear HC22
           by_cases c23 : x28_11 = true
           ·
            subst c23
            have H1 : (if a0_5 = 0 then (if 0 ≤ x16_1 then (if x16_1 < (x7_1.length : Int) then (search_reach.j2 kj11 l2 (x7_1.set (x16_1 : Int).toNat true) x8_1 x16_1 l1 (l1.length : Int) x16_1 a0_0 a0_1 a0_2 a0_3 a0_4 a0_5 a0_6 a0_7 a0_8 a0_9 a0_10 a0_11 ((rd_T46 l1 x16_1).f0) ((rd_T46 l1 x16_1).f1) ((rd_T46 l1 x16_1).f2.f0) ((rd_T46 l1 x16_1).f2.f1) ((rd_T46 l1 x16_1).f2.f2) ((rd_T46 l1 x16_1).f2.f3) ((rd_T46 l1 x16_1).f2.f4) ((rd_T46 l1 x16_1).f2.f5) ((rd_T46 l1 x16_1).f2.f6)) else (none)) else (none)) else (if 0 ≤ x16_1 then (if x16_1 < (x7_1.length : Int) then (search_reach.j2 kj11 l2 (x7_1.set (x16_1 : Int).toNat (decide ((wrap64 (((rd_T46 l1 x16_1).f1) - x8_1)) ≤ a0_5))) x8_1 x16_1 l1 (l1.length : Int) x16_1 a0_0 a0_1 a0_2 a0_3 a0_4 a0_5 a0_6 a0_7 a0_8 a0_9 a0_10 a0_11 ((rd_T46 l1 x16_1).f0) ((rd_T46 l1 x16_1).f1) ((rd_T46 l1 x16_1).f2.f0) ((rd_T46 l1 x16_1).f2.f1) ((rd_T46 l1 x16_1).f2.f2) ((rd_T46 l1 x16_1).f2.f3) ((rd_T46 l1 x16_1).f2.f4) ((rd_T46 l1 x16_1).f2.f5) ((rd_T46 l1 x16_1).f2.f6)) else (none)) else (none))) = some r := by rw [if_pos rfl] at H; exact H
            clear H
            have H := H1
            clear H1
            by_cases c24 : a0_5 = 0
            ·
             rw [if_pos c24] at H
             have c24b0 : (a0_5 == 0) = true := beq_iff_eq.mpr c24
             have c24b1 : (a0_5 != 0) = false := bne_eq_false_iff_eq.mpr c24
             clear c24
             (first | rw [c24b0] | (simp only [i64_w, i32_w]; rw [c24b0]) | skip)
             by_cases c25 : 0 ≤ x16_1
             ·
              rw [if_pos c25] at H
              have c25b0 : decide (0 ≤ x16_1) = true := decide_eq_true c25
              clear c25
              by_cases c26 : x16_1 < (x7_1.length : Int)
              ·
               rw [if_pos c26] at H
               have c26b0 : decide (x16_1 < (x7_1.length : Int)) = true := decide_eq_true c26
               clear c26
               obtain ⟨y150, hy150⟩ : ∃ y_ : List Bool, y_ = (x7_1.set (x16_1 : Int).toNat true) := ⟨_, rfl⟩
               replace H : (search_reach.j2 kj11 l2 y150 x8_1 x16_1 l1 (l1.length : Int) x16_1 a0_0 a0_1 a0_2 a0_3 a0_4 a0_5 a0_6 a0_7 a0_8 a0_9 a0_10 a0_11 ((rd_T46 l1 x16_1).f0) ((rd_T46 l1 x16_1).f1) ((rd_T46 l1 x16_1).f2.f0) ((rd_T46 l1 x16_1).f2.f1) ((rd_T46 l1 x16_1).f2.f2) ((rd_T46 l1 x16_1).f2.f3) ((rd_T46 l1 x16_1).f2.f4) ((rd_T46 l1 x16_1).f2.f5) ((rd_T46 l1 x16_1).f2.f6)) = some r := by first | (rw [hy150]; with_reducible exact H) | (have H2_ := (Option.bind_some _ _).symm.trans H; rw [hy150]; with_reducible exact H2_) | (have H2_ := (Option.bind_some _ _).symm.trans H; with_reducible exact H2_) | with_reducible exact H | (rw [hy150]; exact H) | exact H
               have Ny150 := Aside0.mk hy150
               clear hy150
               have H' := Aside0.mk H
               clear H
               have hnb28 := NB143_148.out
               have hnc28 := NB148_143.out
               obtain ⟨hcz29_0, hcz29_1, hcz29_2, hcz29_3, hcz29_4, hcz29_5, hcz29_6, hcz29_7, hcz29_8, hcz29_9, hcz29_10, hcz29_11⟩ := bc12 BK143.out
               obtain ⟨hfz29_0, hfz29_1, hfz29_2, hfz29_3, hfz29_4, hfz29_5, hfz29_6, hfz29_7, hfz29_8, hfz29_9, hfz29_10, hfz29_11⟩ := bf12 BK143.out
               have p27 : 0 ≤ (x16_1 : Int) := of_decide_eq_true (by first | (with_reducible assumption) | assumption)
               have q27 : (x16_1 : Int) < ((x7_1.length : Int) : Int) := of_decide_eq_true (by first | (with_reducible assumption) | assumption)
               obtain ⟨go27, co27, eo27, gb27, gl27, cl27, HG27⟩ := Kd.R_form HO_7.out (by omega)
               (first | cases eo27 | (injection eo27 with ea_ en_ ec_; (first | subst ea_ | (injection ea_ with ea_; subst ea_)); subst ec_; clear en_))
               have GB27 := Aside0.mk gb27
               have GG27 := Aside0.mk HG27
               clear gb27 gl27 HG27
               obtain ⟨hx27_0, hf27_0⟩ := Kd.R_celln false HO_7.out (x16_1 : Int) p27 q27
               replace p27 := eq_true p27
               replace q27 := eq_true q27
               have HP30 := Kd.R_putg HO_7.out (x16_1 : Int) true
               go_wp2_with (first | ((with_reducible refine gate_store (t := 4) (p := 43) rfl ?_); refine store_event (t := 4) (p := 43) (v := ?vo_w31) (w1 := (wc.setCell ⟨go27, (x16_1 : Int).toNat, none⟩ (.bool true))) ?hg ?ho ?hn ?hr ?_; (case ho => rfl); (case hg => rfl); (case hn => rfl); (case hr => first | (go_simp; done) | (go_simp; rfl)); intro w31 hw; have hg : wc.grownBy w31 (some go27) := (by rw [hw]; exact HP30.2); have hp_ : Kd.R Kd.bool 4 w31 w.heap.size (fun _ => True) (.slice (some ⟨go27, 0, none⟩) x7_1.length co27) y150 := (by rw [hw, Ny150.out]; exact HP30.1); clear HP30; have n0_ := Aside0.mk (hp_); have n1_ := Aside0.mk (blk_grown (g := gb143) (o := .cells #[.int .i64 a0_0, .int .i64 a0_1, .int .i64 a0_2, .int .i64 a0_3, .int .i64 a0_4, .int .i64 a0_5, .bool a0_6, .int .i64 a0_7, .int .i64 a0_8, .int .i64 a0_9, .int .i64 a0_10, .int .i64 a0_11] 50 (0, 0)) (bg BK143.out) hg (Kd.R_ne HO_7.out BK143.out (by decide))); have n2_ := Aside0.mk (blk_grown (g := gb148) (o := .cells #[.int .i64 ((rd_T46 l1 x16_1).f0), .int .i64 ((rd_T46 l1 x16_1).f1), .int .i64 ((rd_T46 l1 x16_1).f2.f0), .int .i64 ((rd_T46 l1 x16_1).f2.f1), .int .i64 ((rd_T46 l1 x16_1).f2.f2), .int .i64 ((rd_T46 l1 x16_1).f2.f3), .int .i64 ((rd_T46 l1 x16_1).f2.f4), .string ((rd_T46 l1 x16_1).f2.f5), .int .i64 ((rd_T46 l1 x16_1).f2.f6)] 46 (0, 0)) (bg BK148.out) hg (Kd.R_ne HO_7.out BK148.out (by decide))); have n3_ := Aside0.mk ((by rw [hw]; exact below_set (HB.out) GB27.out : Below w.heap.size w w31)); clear HO_7; clear BK143; clear BK148; clear HB; have HO_7 := n0_; have BK143 := n1_; have BK148 := n2_; have HB := n3_; clear n0_ n1_ n2_ n3_; clear hg hw hp_))
               go_meet
               case rel => exact ⟨_, (y150), H', ⟨by have := HK1.out; have := HJ11.out; first | omega | exact Nat.le_refl _⟩, ⟨by (with_reducible repeat (first | apply Kd.R_alloc | apply Kd.R_drewN | apply Kd.R_drew)); exact HO_7.out⟩, ⟨bg BK143.out⟩, ⟨bg BK148.out⟩, ⟨bs HB.out⟩⟩
              ·
               rw [if_neg c26] at H
               exact absurd H (by simp)
             ·
              rw [if_neg c25] at H
              exact absurd H (by simp)
            ·
             rw [if_neg c24] at H
             have c24b0 : (a0_5 == 0) = false := beq_eq_false_iff_ne.mpr c24
             have c24b1 : (a0_5 != 0) = true := bne_iff_ne.mpr c24
             (first | rw [c24b0] | (simp only [i64_w, i32_w]; rw [c24b0]) | skip)
             by_cases c32 : 0 ≤ x16_1
             ·
              rw [if_pos c32] at H
              have c32b0 : decide (0 ≤ x16_1) = true := decide_eq_true c32
              clear c32
              by_cases c33 : x16_1 < (x7_1.length : Int)
              ·
               rw [if_pos c33] at H
               have c33b0 : decide (x16_1 < (x7_1.length : Int)) = true := decide_eq_true c33
               clear c33
               obtain ⟨y151, hy151⟩ : ∃ y_ : List Bool, y_ = (x7_1.set (x16_1 : Int).toNat (decide ((wrap64 (((rd_T46 l1 x16_1).f1) - x8_1)) ≤ a0_5))) := ⟨_, rfl⟩
               replace H : (search_reach.j2 kj11 l2 y151 x8_1 x16_1 l1 (l1.length : Int) x16_1 a0_0 a0_1 a0_2 a0_3 a0_4 a0_5 a0_6 a0_7 a0_8 a0_9 a0_10 a0_11 ((rd_T46 l1 x16_1).f0) ((rd_T46 l1 x16_1).f1) ((rd_T46 l1 x16_1).f2.f0) ((rd_T46 l1 x16_1).f2.f1) ((rd_T46 l1 x16_1).f2.f2) ((rd_T46 l1 x16_1).f2.f3) ((rd_T46 l1 x16_1).f2.f4) ((rd_T46 l1 x16_1).f2.f5) ((rd_T46 l1 x16_1).f2.f6)) = some r := by first | (rw [hy151]; with_reducible exact H) | (have H2_ := (Option.bind_some _ _).symm.trans H; rw [hy151]; with_reducible exact H2_) | (have H2_ := (Option.bind_some _ _).symm.trans H; with_reducible exact H2_) | with_reducible exact H | (rw [hy151]; exact H) | exact H
               have Ny151 := Aside0.mk hy151
               clear hy151
               have H' := Aside0.mk H
               clear H
               have hnb35 := NB143_148.out
               have hnc35 := NB148_143.out
               obtain ⟨hcz36_0, hcz36_1, hcz36_2, hcz36_3, hcz36_4, hcz36_5, hcz36_6, hcz36_7, hcz36_8, hcz36_9, hcz36_10, hcz36_11⟩ := bc12 BK143.out
               obtain ⟨hfz36_0, hfz36_1, hfz36_2, hfz36_3, hfz36_4, hfz36_5, hfz36_6, hfz36_7, hfz36_8, hfz36_9, hfz36_10, hfz36_11⟩ := bf12 BK143.out
               obtain ⟨hcz37_0, hcz37_1, hcz37_2, hcz37_3, hcz37_4, hcz37_5, hcz37_6, hcz37_7, hcz37_8⟩ := bc9 BK148.out
               obtain ⟨hfz37_0, hfz37_1, hfz37_2, hfz37_3, hfz37_4, hfz37_5, hfz37_6, hfz37_7, hfz37_8⟩ := bf9 BK148.out
               have p34 : 0 ≤ (x16_1 : Int) := of_decide_eq_true (by first | (with_reducible assumption) | assumption)
               have q34 : (x16_1 : Int) < ((x7_1.length : Int) : Int) := of_decide_eq_true (by first | (with_reducible assumption) | assumption)
               obtain ⟨go34, co34, eo34, gb34, gl34, cl34, HG34⟩ := Kd.R_form HO_7.out (by omega)
               (first | cases eo34 | (injection eo34 with ea_ en_ ec_; (first | subst ea_ | (injection ea_ with ea_; subst ea_)); subst ec_; clear en_))
               have GB34 := Aside0.mk gb34
               have GG34 := Aside0.mk HG34
               clear gb34 gl34 HG34
               obtain ⟨hx34_0, hf34_0⟩ := Kd.R_celln false HO_7.out (x16_1 : Int) p34 q34
               replace p34 := eq_true p34
               replace q34 := eq_true q34
               have HP38 := Kd.R_putg HO_7.out (x16_1 : Int) (decide ((wrap64 (((rd_T46 l1 x16_1).f1) - x8_1)) ≤ a0_5))
               go_wp2_with (first | ((with_reducible refine gate_store (t := 4) (p := 43) rfl ?_); refine store_event (t := 4) (p := 43) (v := ?vo_w39) (w1 := (wc.setCell ⟨go34, (x16_1 : Int).toNat, none⟩ (.bool (decide ((wrap64 (((rd_T46 l1 x16_1).f1) - x8_1)) ≤ a0_5))))) ?hg ?ho ?hn ?hr ?_; (case ho => rfl); (case hg => rfl); (case hn => rfl); (case hr => first | (go_simp; done) | (go_simp; rfl)); intro w39 hw; have hg : wc.grownBy w39 (some go34) := (by rw [hw]; exact HP38.2); have hp_ : Kd.R Kd.bool 4 w39 w.heap.size (fun _ => True) (.slice (some ⟨go34, 0, none⟩) x7_1.length co34) y151 := (by rw [hw, Ny151.out]; exact HP38.1); clear HP38; have n0_ := Aside0.mk (hp_); have n1_ := Aside0.mk (blk_grown (g := gb143) (o := .cells #[.int .i64 a0_0, .int .i64 a0_1, .int .i64 a0_2, .int .i64 a0_3, .int .i64 a0_4, .int .i64 a0_5, .bool a0_6, .int .i64 a0_7, .int .i64 a0_8, .int .i64 a0_9, .int .i64 a0_10, .int .i64 a0_11] 50 (0, 0)) (bg BK143.out) hg (Kd.R_ne HO_7.out BK143.out (by decide))); have n2_ := Aside0.mk (blk_grown (g := gb148) (o := .cells #[.int .i64 ((rd_T46 l1 x16_1).f0), .int .i64 ((rd_T46 l1 x16_1).f1), .int .i64 ((rd_T46 l1 x16_1).f2.f0), .int .i64 ((rd_T46 l1 x16_1).f2.f1), .int .i64 ((rd_T46 l1 x16_1).f2.f2), .int .i64 ((rd_T46 l1 x16_1).f2.f3), .int .i64 ((rd_T46 l1 x16_1).f2.f4), .string ((rd_T46 l1 x16_1).f2.f5), .int .i64 ((rd_T46 l1 x16_1).f2.f6)] 46 (0, 0)) (bg BK148.out) hg (Kd.R_ne HO_7.out BK148.out (by decide))); have n3_ := Aside0.mk ((by rw [hw]; exact below_set (HB.out) GB34.out : Below w.heap.size w w39)); clear HO_7; clear BK143; clear BK148; clear HB; have HO_7 := n0_; have BK143 := n1_; have BK148 := n2_; have HB := n3_; clear n0_ n1_ n2_ n3_; clear hg hw hp_))
               go_meet
               case rel => exact ⟨_, (y151), H', ⟨by have := HK1.out; have := HJ11.out; first | omega | exact Nat.le_refl _⟩, ⟨by (with_reducible repeat (first | apply Kd.R_alloc | apply Kd.R_drewN | apply Kd.R_drew)); exact HO_7.out⟩, ⟨bg BK143.out⟩, ⟨bg BK148.out⟩, ⟨bs HB.out⟩⟩
              ·
               rw [if_neg c33] at H
               exact absurd H (by simp)
             ·
              rw [if_neg c32] at H
              exact absurd H (by simp)
           ·
            replace c23 := Bool.eq_false_iff.mpr c23
            subst c23
            have H1 : (search_reach.j2 kj11 l2 x7_1 x8_1 x16_1 l1 (l1.length : Int) x16_1 a0_0 a0_1 a0_2 a0_3 a0_4 a0_5 a0_6 a0_7 a0_8 a0_9 a0_10 a0_11 ((rd_T46 l1 x16_1).f0) ((rd_T46 l1 x16_1).f1) ((rd_T46 l1 x16_1).f2.f0) ((rd_T46 l1 x16_1).f2.f1) ((rd_T46 l1 x16_1).f2.f2) ((rd_T46 l1 x16_1).f2.f3) ((rd_T46 l1 x16_1).f2.f4) ((rd_T46 l1 x16_1).f2.f5) ((rd_T46 l1 x16_1).f2.f6)) = some r := by rw [if_neg (show ¬ (false = true) by decide)] at H; exact H
            clear H
            have H := H1
            clear H1
            have H' := Aside0.mk H
            clear H
            go_wp2
            go_meet
            case rel => exact ⟨_, (x7_1), H', ⟨by have := HK1.out; have := HJ11.out; first | omega | exact Nat.le_refl _⟩, ⟨by (with_reducible repeat (first | apply Kd.R_alloc | apply Kd.R_drewN | apply Kd.R_drew)); exact HO_7.out⟩, ⟨bg BK143.out⟩, ⟨bg BK148.out⟩, ⟨bs HB.out⟩⟩
          case rest =>
           clear HC22
           try clear c1
           try clear p1
           try clear q1
           try clear hx1
           try clear c2
           try clear p2
           try clear q2
           try clear hx2
           try clear c3
           try clear p3
           try clear q3
           try clear hx3
           try clear hf3
           try clear c4
           try clear c4b0
           try clear c4b1
           try clear c5
           try clear c5b0
           try clear c5b1
           try clear p6
           try clear c7
           try clear c9
           try clear c9b0
           try clear c10
           try clear c10b0
           try clear c11
           try clear c11b0
           try clear c14
           try clear p14
           try clear q14
           try clear hx14
           try clear c16
           try clear c16b0
           try clear c18
           try clear c23
           try clear c24
           try clear c24b0
           try clear c24b1
           try clear c25
           try clear c25b0
           try clear c26
           try clear c26b0
           try clear p27
           try clear q27
           try clear hx27
           try clear hf27
           try clear c28
           try clear c32
           try clear c32b0
           try clear c33
           try clear c33b0
           try clear p34
           try clear q34
           try clear hx34
           try clear hf34
           try clear c35
           try clear hcz15_0 hcz15_1 hcz15_2 hcz15_3 hcz15_4 hcz15_5 hcz15_6 hcz15_7 hcz15_8
           try clear hcz19_0 hcz19_1 hcz19_10 hcz19_11 hcz19_2 hcz19_3 hcz19_4 hcz19_5 hcz19_6 hcz19_7 hcz19_8 hcz19_9
           try clear hcz20_0 hcz20_1 hcz20_2 hcz20_3 hcz20_4 hcz20_5 hcz20_6 hcz20_7 hcz20_8
           try clear hcz29_0 hcz29_1 hcz29_10 hcz29_11 hcz29_2 hcz29_3 hcz29_4 hcz29_5 hcz29_6 hcz29_7 hcz29_8 hcz29_9
           try clear hcz36_0 hcz36_1 hcz36_10 hcz36_11 hcz36_2 hcz36_3 hcz36_4 hcz36_5 hcz36_6 hcz36_7 hcz36_8 hcz36_9
           try clear hcz37_0 hcz37_1 hcz37_2 hcz37_3 hcz37_4 hcz37_5 hcz37_6 hcz37_7 hcz37_8
           try clear hfz15_0 hfz15_1 hfz15_2 hfz15_3 hfz15_4 hfz15_5 hfz15_6 hfz15_7 hfz15_8
           try clear hfz19_0 hfz19_1 hfz19_10 hfz19_11 hfz19_2 hfz19_3 hfz19_4 hfz19_5 hfz19_6 hfz19_7 hfz19_8 hfz19_9
           try clear hfz20_0 hfz20_1 hfz20_2 hfz20_3 hfz20_4 hfz20_5 hfz20_6 hfz20_7 hfz20_8
           try clear hfz29_0 hfz29_1 hfz29_10 hfz29_11 hfz29_2 hfz29_3 hfz29_4 hfz29_5 hfz29_6 hfz29_7 hfz29_8 hfz29_9
           try clear hfz36_0 hfz36_1 hfz36_10 hfz36_11 hfz36_2 hfz36_3 hfz36_4 hfz36_5 hfz36_6 hfz36_7 hfz36_8 hfz36_9
           try clear hfz37_0 hfz37_1 hfz37_2 hfz37_3 hfz37_4 hfz37_5 hfz37_6 hfz37_7 hfz37_8
           try clear hx147_0
           try clear hx147_1
           try clear hx147_2
           try clear hx147_3
           try clear hx147_4
           try clear hx147_5
           try clear hx147_6
           try clear hx147_7
           try clear hx147_8
           try clear hx27_0
           try clear hx34_0
           try clear p1
           try clear p14
           try clear p147
           try clear p2
           try clear p27
           try clear p34
           try clear q1
           try clear q14
           try clear q147
           try clear q27
           try clear q34
           obtain ⟨kq, x7_21, HA, HJ21, HO_7, BK143, BK148, HB⟩ := hcut
           cases kq with
           | zero => exact absurd HA.out (by simp [search_reach.j2])
           | succ kj21 =>
            have H := HA.out
            clear HA
            simp only [search_reach.j2] at H
            replace H := Option.bind_eq_some_iff.mp H
            obtain ⟨t152, A400, H⟩ := H
            replace H : (if t152 = true then (if 0 ≤ x16_1 then (if x16_1 < (l2.length : Int) then (if rdOf false l2 x16_1 = true then (search_reach.l0 kj21 l2 x7_21 (mx (-1) ((rd_T46 l1 x16_1).f1)) l1 (l1.length : Int) (wrap64 (x16_1 + 1)) a0_0 a0_1 a0_2 a0_3 a0_4 a0_5 a0_6 a0_7 a0_8 a0_9 a0_10 a0_11) else (search_reach.l0 kj21 l2 x7_21 (-1) l1 (l1.length : Int) (wrap64 (x16_1 + 1)) a0_0 a0_1 a0_2 a0_3 a0_4 a0_5 a0_6 a0_7 a0_8 a0_9 a0_10 a0_11)) else (none)) else (none)) else (if 0 ≤ x16_1 then (if x16_1 < (l2.length : Int) then (if rdOf false l2 x16_1 = true then (search_reach.l0 kj21 l2 x7_21 (mx x8_1 ((rd_T46 l1 x16_1).f1)) l1 (l1.length : Int) (wrap64 (x16_1 + 1)) a0_0 a0_1 a0_2 a0_3 a0_4 a0_5 a0_6 a0_7 a0_8 a0_9 a0_10 a0_11) else (search_reach.l0 kj21 l2 x7_21 x8_1 l1 (l1.length : Int) (wrap64 (x16_1 + 1)) a0_0 a0_1 a0_2 a0_3 a0_4 a0_5 a0_6 a0_7 a0_8 a0_9 a0_10 a0_11)) else (none)) else (none))) = some r := H
            have A40 := Aside0.mk A400
            clear A400
            by_cases c41 : t152 = true
            ·
             subst c41
             have H1 : (if 0 ≤ x16_1 then (if x16_1 < (l2.length : Int) then (if rdOf false l2 x16_1 = true then (search_reach.l0 kj21 l2 x7_21 (mx (-1) ((rd_T46 l1 x16_1).f1)) l1 (l1.length : Int) (wrap64 (x16_1 + 1)) a0_0 a0_1 a0_2 a0_3 a0_4 a0_5 a0_6 a0_7 a0_8 a0_9 a0_10 a0_11) else (search_reach.l0 kj21 l2 x7_21 (-1) l1 (l1.length : Int) (wrap64 (x16_1 + 1)) a0_0 a0_1 a0_2 a0_3 a0_4 a0_5 a0_6 a0_7 a0_8 a0_9 a0_10 a0_11)) else (none)) else (none)) = some r := by rw [if_pos rfl] at H; exact H
             clear H
             have H := H1
             clear H1
             by_cases c42 : 0 ≤ x16_1
             ·
              rw [if_pos c42] at H
              have c42b0 : decide (0 ≤ x16_1) = true := decide_eq_true c42
              clear c42
              by_cases c43 : x16_1 < (l2.length : Int)
              ·
               rw [if_pos c43] at H
               have c43b0 : decide (x16_1 < (l2.length : Int)) = true := decide_eq_true c43
               clear c43
               obtain ⟨bq44, hbq44⟩ : ∃ b_ : Bool, b_ = (rdOf false l2 x16_1) := ⟨_, rfl⟩
               replace H : (if bq44 = true then (search_reach.l0 kj21 l2 x7_21 (mx (-1) ((rd_T46 l1 x16_1).f1)) l1 (l1.length : Int) (wrap64 (x16_1 + 1)) a0_0 a0_1 a0_2 a0_3 a0_4 a0_5 a0_6 a0_7 a0_8 a0_9 a0_10 a0_11) else (search_reach.l0 kj21 l2 x7_21 (-1) l1 (l1.length : Int) (wrap64 (x16_1 + 1)) a0_0 a0_1 a0_2 a0_3 a0_4 a0_5 a0_6 a0_7 a0_8 a0_9 a0_10 a0_11)) = some r := by rw [← hbq44] at H; exact H
               have Nbq44 := Aside0.mk hbq44
               clear hbq44
               by_cases c45 : bq44 = true
               ·
                subst c45
                (try rw [← Nbq44.out] at BK143)
                (try rw [← Nbq44.out] at BK148)
                have H1 : (search_reach.l0 kj21 l2 x7_21 (mx (-1) ((rd_T46 l1 x16_1).f1)) l1 (l1.length : Int) (wrap64 (x16_1 + 1)) a0_0 a0_1 a0_2 a0_3 a0_4 a0_5 a0_6 a0_7 a0_8 a0_9 a0_10 a0_11) = some r := by rw [if_pos rfl] at H; exact H
                clear H
                have H := H1
                clear H1
                obtain ⟨ji46, hji46⟩ : ∃ j_ : Int, (mx (-1) ((rd_T46 l1 x16_1).f1)) = j_ := ⟨_, rfl⟩
                replace H : (search_reach.l0 kj21 l2 x7_21 ji46 l1 (l1.length : Int) (wrap64 (x16_1 + 1)) a0_0 a0_1 a0_2 a0_3 a0_4 a0_5 a0_6 a0_7 a0_8 a0_9 a0_10 a0_11) = some r := by first | (rw [hji46] at H; exact H) | (simp only [hji46] at H ⊢; exact H)
                (try rw [hji46] at A40)
                have hji46_ : (if (-1) < ((rd_T46 l1 x16_1).f1) then ((rd_T46 l1 x16_1).f1) else (-1)) = ji46 := hji46
                have H' := Aside0.mk H
                clear H
                have hnb47 := NB143_148.out
                have hnc47 := NB148_143.out
                obtain ⟨hcz48_0, hcz48_1, hcz48_2, hcz48_3, hcz48_4, hcz48_5, hcz48_6, hcz48_7, hcz48_8, hcz48_9, hcz48_10, hcz48_11⟩ := bc12 BK143.out
                obtain ⟨hfz48_0, hfz48_1, hfz48_2, hfz48_3, hfz48_4, hfz48_5, hfz48_6, hfz48_7, hfz48_8, hfz48_9, hfz48_10, hfz48_11⟩ := bf12 BK143.out
                obtain ⟨hcz49_0, hcz49_1, hcz49_2, hcz49_3, hcz49_4, hcz49_5, hcz49_6, hcz49_7, hcz49_8⟩ := bc9 BK148.out
                obtain ⟨hfz49_0, hfz49_1, hfz49_2, hfz49_3, hfz49_4, hfz49_5, hfz49_6, hfz49_7, hfz49_8⟩ := bf9 BK148.out
                go_wp2_with (first | ((with_reducible refine gate_callee (f := 64) rfl ?_); refine goesL_ (some 46) rfl rfl Try.func64 (by kernel_rfl) rfl #[.agg #[.int .i64 a0_0, .int .i64 a0_1, .int .i64 a0_2, .int .i64 a0_3, .int .i64 a0_4, .int .i64 a0_5, .bool a0_6, .int .i64 a0_7, .int .i64 a0_8, .int .i64 a0_9, .int .i64 a0_10, .int .i64 a0_11], .agg #[.int .i64 ((rd_T46 l1 x16_1).f0), .int .i64 ((rd_T46 l1 x16_1).f1), .int .i64 ((rd_T46 l1 x16_1).f2.f0), .int .i64 ((rd_T46 l1 x16_1).f2.f1), .int .i64 ((rd_T46 l1 x16_1).f2.f2), .int .i64 ((rd_T46 l1 x16_1).f2.f3), .int .i64 ((rd_T46 l1 x16_1).f2.f4), .string ((rd_T46 l1 x16_1).f2.f5), .int .i64 ((rd_T46 l1 x16_1).f2.f6)]] rfl (by (try simp only [List.map_toArray, List.map_cons, List.map_nil]); first | done | rfl | (simp only [List.length_drop, List.length_take]; rfl)) ?_; (with_reducible refine (search_forbids.calls kj21 a0_0 a0_1 a0_2 a0_3 a0_4 a0_5 a0_6 a0_7 a0_8 a0_9 a0_10 a0_11 ((rd_T46 l1 x16_1).f0) ((rd_T46 l1 x16_1).f1) ((rd_T46 l1 x16_1).f2.f0) ((rd_T46 l1 x16_1).f2.f1) ((rd_T46 l1 x16_1).f2.f2) ((rd_T46 l1 x16_1).f2.f3) ((rd_T46 l1 x16_1).f2.f4) ((rd_T46 l1 x16_1).f2.f5) ((rd_T46 l1 x16_1).f2.f6) true _ A40.out).mono ?_); rintro e w50 ⟨rfl, hb⟩; refine ⟨_, rfl, ?_⟩; have n0_ := Aside0.mk (Kd.R_below (rq HO_7.out) hb); have n1_ := Aside0.mk (blk_below (bg BK143.out) hb); have n2_ := Aside0.mk (blk_below (bg BK148.out) hb); have n3_ := Aside0.mk (below_step (bs HB.out) hb); clear HO_7; clear BK143; clear BK148; clear HB; have HO_7 := n0_; have BK143 := n1_; have BK148 := n2_; have HB := n3_; clear n0_ n1_ n2_ n3_; (try clear hb); (try clear hb2); (try clear hk); (try clear hi); have p153 : 0 ≤ (x16_1 : Int) := of_decide_eq_true (by first | (with_reducible assumption) | assumption); have q153 : x16_1 < (l2.length : Int) := of_decide_eq_true (by first | (with_reducible assumption) | assumption); obtain ⟨ad153, e153, hx153_0⟩ := Kd.at_bool HR2.out x16_1 p153 q153; (try rw [← Nbq44.out] at hx153_0); cases e153; replace hx153_0 := pw_cell_below HB.out hx153_0; replace p153 := eq_true p153; replace q153 := eq_true q153; obtain ⟨hcz51_0, hcz51_1, hcz51_2, hcz51_3, hcz51_4, hcz51_5, hcz51_6, hcz51_7, hcz51_8⟩ := bc9 BK148.out; obtain ⟨hfz51_0, hfz51_1, hfz51_2, hfz51_3, hfz51_4, hfz51_5, hfz51_6, hfz51_7, hfz51_8⟩ := bf9 BK148.out))
                go_roundg kj21
                case measure => have := HK1.out; have := HJ11.out; have := HJ21.out; omega
                case rel => (try rw [Nbq44.out] at H'); (try rw [Nbq44.out] at BK143); (try rw [Nbq44.out] at BK148); exact ⟨(x7_21), (ji46), (wrap64 (x16_1 + 1)), (by first | rfl | (simp; done) | (simp only [← hji46] <;> (first | rfl | simp)) | (simp [*]; done)), (by first | rfl | (simp; done) | (simp [*]; done)), H', ⟨by have := HK1.out; have := HJ11.out; have := HJ21.out; omega⟩, ⟨by (with_reducible repeat (first | apply Kd.R_alloc | apply Kd.R_drewN | apply Kd.R_drew)); exact HO_7.out⟩, ⟨bg BK143.out⟩, ⟨bs HB.out⟩⟩
               ·
                replace c45 := Bool.eq_false_iff.mpr c45
                subst c45
                have H1 : (search_reach.l0 kj21 l2 x7_21 (-1) l1 (l1.length : Int) (wrap64 (x16_1 + 1)) a0_0 a0_1 a0_2 a0_3 a0_4 a0_5 a0_6 a0_7 a0_8 a0_9 a0_10 a0_11) = some r := by rw [if_neg (show ¬ (false = true) by decide)] at H; exact H
                clear H
                have H := H1
                clear H1
                have H' := Aside0.mk H
                clear H
                have hnb52 := NB143_148.out
                have hnc52 := NB148_143.out
                obtain ⟨hcz53_0, hcz53_1, hcz53_2, hcz53_3, hcz53_4, hcz53_5, hcz53_6, hcz53_7, hcz53_8, hcz53_9, hcz53_10, hcz53_11⟩ := bc12 BK143.out
                obtain ⟨hfz53_0, hfz53_1, hfz53_2, hfz53_3, hfz53_4, hfz53_5, hfz53_6, hfz53_7, hfz53_8, hfz53_9, hfz53_10, hfz53_11⟩ := bf12 BK143.out
                obtain ⟨hcz54_0, hcz54_1, hcz54_2, hcz54_3, hcz54_4, hcz54_5, hcz54_6, hcz54_7, hcz54_8⟩ := bc9 BK148.out
                obtain ⟨hfz54_0, hfz54_1, hfz54_2, hfz54_3, hfz54_4, hfz54_5, hfz54_6, hfz54_7, hfz54_8⟩ := bf9 BK148.out
                go_wp2_with (first | ((with_reducible refine gate_callee (f := 64) rfl ?_); refine goesL_ (some 46) rfl rfl Try.func64 (by kernel_rfl) rfl #[.agg #[.int .i64 a0_0, .int .i64 a0_1, .int .i64 a0_2, .int .i64 a0_3, .int .i64 a0_4, .int .i64 a0_5, .bool a0_6, .int .i64 a0_7, .int .i64 a0_8, .int .i64 a0_9, .int .i64 a0_10, .int .i64 a0_11], .agg #[.int .i64 ((rd_T46 l1 x16_1).f0), .int .i64 ((rd_T46 l1 x16_1).f1), .int .i64 ((rd_T46 l1 x16_1).f2.f0), .int .i64 ((rd_T46 l1 x16_1).f2.f1), .int .i64 ((rd_T46 l1 x16_1).f2.f2), .int .i64 ((rd_T46 l1 x16_1).f2.f3), .int .i64 ((rd_T46 l1 x16_1).f2.f4), .string ((rd_T46 l1 x16_1).f2.f5), .int .i64 ((rd_T46 l1 x16_1).f2.f6)]] rfl (by (try simp only [List.map_toArray, List.map_cons, List.map_nil]); first | done | rfl | (simp only [List.length_drop, List.length_take]; rfl)) ?_; (with_reducible refine (search_forbids.calls kj21 a0_0 a0_1 a0_2 a0_3 a0_4 a0_5 a0_6 a0_7 a0_8 a0_9 a0_10 a0_11 ((rd_T46 l1 x16_1).f0) ((rd_T46 l1 x16_1).f1) ((rd_T46 l1 x16_1).f2.f0) ((rd_T46 l1 x16_1).f2.f1) ((rd_T46 l1 x16_1).f2.f2) ((rd_T46 l1 x16_1).f2.f3) ((rd_T46 l1 x16_1).f2.f4) ((rd_T46 l1 x16_1).f2.f5) ((rd_T46 l1 x16_1).f2.f6) true _ A40.out).mono ?_); rintro e w55 ⟨rfl, hb⟩; refine ⟨_, rfl, ?_⟩; have n0_ := Aside0.mk (Kd.R_below (rq HO_7.out) hb); have n1_ := Aside0.mk (blk_below (bg BK143.out) hb); have n2_ := Aside0.mk (blk_below (bg BK148.out) hb); have n3_ := Aside0.mk (below_step (bs HB.out) hb); clear HO_7; clear BK143; clear BK148; clear HB; have HO_7 := n0_; have BK143 := n1_; have BK148 := n2_; have HB := n3_; clear n0_ n1_ n2_ n3_; (try clear hb); (try clear hb2); (try clear hk); (try clear hi); have p153 : 0 ≤ (x16_1 : Int) := of_decide_eq_true (by first | (with_reducible assumption) | assumption); have q153 : x16_1 < (l2.length : Int) := of_decide_eq_true (by first | (with_reducible assumption) | assumption); obtain ⟨ad153, e153, hx153_0⟩ := Kd.at_bool HR2.out x16_1 p153 q153; (try rw [← Nbq44.out] at hx153_0); cases e153; replace hx153_0 := pw_cell_below HB.out hx153_0; replace p153 := eq_true p153; replace q153 := eq_true q153))
                go_roundg kj21
                case measure => have := HK1.out; have := HJ11.out; have := HJ21.out; omega
                case rel => (try rw [Nbq44.out] at H'); exact ⟨(x7_21), ((-1)), (wrap64 (x16_1 + 1)), (by first | rfl | (simp; done) | (simp [*]; done)), (by first | rfl | (simp; done) | (simp [*]; done)), H', ⟨by have := HK1.out; have := HJ11.out; have := HJ21.out; omega⟩, ⟨by (with_reducible repeat (first | apply Kd.R_alloc | apply Kd.R_drewN | apply Kd.R_drew)); exact HO_7.out⟩, ⟨bg BK143.out⟩, ⟨bs HB.out⟩⟩
              ·
               rw [if_neg c43] at H
               exact absurd H (by simp)
             ·
              rw [if_neg c42] at H
              exact absurd H (by simp)
            ·
             replace c41 := Bool.eq_false_iff.mpr c41
             subst c41
             have H1 : (if 0 ≤ x16_1 then (if x16_1 < (l2.length : Int) then (if rdOf false l2 x16_1 = true then (search_reach.l0 kj21 l2 x7_21 (mx x8_1 ((rd_T46 l1 x16_1).f1)) l1 (l1.length : Int) (wrap64 (x16_1 + 1)) a0_0 a0_1 a0_2 a0_3 a0_4 a0_5 a0_6 a0_7 a0_8 a0_9 a0_10 a0_11) else (search_reach.l0 kj21 l2 x7_21 x8_1 l1 (l1.length : Int) (wrap64 (x16_1 + 1)) a0_0 a0_1 a0_2 a0_3 a0_4 a0_5 a0_6 a0_7 a0_8 a0_9 a0_10 a0_11)) else (none)) else (none)) = some r := by rw [if_neg (show ¬ (false = true) by decide)] at H; exact H
             clear H
             have H := H1
             clear H1
             by_cases c56 : 0 ≤ x16_1
             ·
              rw [if_pos c56] at H
              have c56b0 : decide (0 ≤ x16_1) = true := decide_eq_true c56
              clear c56
              by_cases c57 : x16_1 < (l2.length : Int)
              ·
               rw [if_pos c57] at H
               have c57b0 : decide (x16_1 < (l2.length : Int)) = true := decide_eq_true c57
               clear c57
               obtain ⟨bq58, hbq58⟩ : ∃ b_ : Bool, b_ = (rdOf false l2 x16_1) := ⟨_, rfl⟩
               replace H : (if bq58 = true then (search_reach.l0 kj21 l2 x7_21 (mx x8_1 ((rd_T46 l1 x16_1).f1)) l1 (l1.length : Int) (wrap64 (x16_1 + 1)) a0_0 a0_1 a0_2 a0_3 a0_4 a0_5 a0_6 a0_7 a0_8 a0_9 a0_10 a0_11) else (search_reach.l0 kj21 l2 x7_21 x8_1 l1 (l1.length : Int) (wrap64 (x16_1 + 1)) a0_0 a0_1 a0_2 a0_3 a0_4 a0_5 a0_6 a0_7 a0_8 a0_9 a0_10 a0_11)) = some r := by rw [← hbq58] at H; exact H
               have Nbq58 := Aside0.mk hbq58
               clear hbq58
               by_cases c59 : bq58 = true
               ·
                subst c59
                (try rw [← Nbq58.out] at BK143)
                (try rw [← Nbq58.out] at BK148)
                have H1 : (search_reach.l0 kj21 l2 x7_21 (mx x8_1 ((rd_T46 l1 x16_1).f1)) l1 (l1.length : Int) (wrap64 (x16_1 + 1)) a0_0 a0_1 a0_2 a0_3 a0_4 a0_5 a0_6 a0_7 a0_8 a0_9 a0_10 a0_11) = some r := by rw [if_pos rfl] at H; exact H
                clear H
                have H := H1
                clear H1
                obtain ⟨ji60, hji60⟩ : ∃ j_ : Int, (mx x8_1 ((rd_T46 l1 x16_1).f1)) = j_ := ⟨_, rfl⟩
                replace H : (search_reach.l0 kj21 l2 x7_21 ji60 l1 (l1.length : Int) (wrap64 (x16_1 + 1)) a0_0 a0_1 a0_2 a0_3 a0_4 a0_5 a0_6 a0_7 a0_8 a0_9 a0_10 a0_11) = some r := by first | (rw [hji60] at H; exact H) | (simp only [hji60] at H ⊢; exact H)
                (try rw [hji60] at A40)
                have hji60_ : (if x8_1 < ((rd_T46 l1 x16_1).f1) then ((rd_T46 l1 x16_1).f1) else x8_1) = ji60 := hji60
                have H' := Aside0.mk H
                clear H
                have hnb61 := NB143_148.out
                have hnc61 := NB148_143.out
                obtain ⟨hcz62_0, hcz62_1, hcz62_2, hcz62_3, hcz62_4, hcz62_5, hcz62_6, hcz62_7, hcz62_8, hcz62_9, hcz62_10, hcz62_11⟩ := bc12 BK143.out
                obtain ⟨hfz62_0, hfz62_1, hfz62_2, hfz62_3, hfz62_4, hfz62_5, hfz62_6, hfz62_7, hfz62_8, hfz62_9, hfz62_10, hfz62_11⟩ := bf12 BK143.out
                obtain ⟨hcz63_0, hcz63_1, hcz63_2, hcz63_3, hcz63_4, hcz63_5, hcz63_6, hcz63_7, hcz63_8⟩ := bc9 BK148.out
                obtain ⟨hfz63_0, hfz63_1, hfz63_2, hfz63_3, hfz63_4, hfz63_5, hfz63_6, hfz63_7, hfz63_8⟩ := bf9 BK148.out
                go_wp2_with (first | ((with_reducible refine gate_callee (f := 64) rfl ?_); refine goesL_ (some 46) rfl rfl Try.func64 (by kernel_rfl) rfl #[.agg #[.int .i64 a0_0, .int .i64 a0_1, .int .i64 a0_2, .int .i64 a0_3, .int .i64 a0_4, .int .i64 a0_5, .bool a0_6, .int .i64 a0_7, .int .i64 a0_8, .int .i64 a0_9, .int .i64 a0_10, .int .i64 a0_11], .agg #[.int .i64 ((rd_T46 l1 x16_1).f0), .int .i64 ((rd_T46 l1 x16_1).f1), .int .i64 ((rd_T46 l1 x16_1).f2.f0), .int .i64 ((rd_T46 l1 x16_1).f2.f1), .int .i64 ((rd_T46 l1 x16_1).f2.f2), .int .i64 ((rd_T46 l1 x16_1).f2.f3), .int .i64 ((rd_T46 l1 x16_1).f2.f4), .string ((rd_T46 l1 x16_1).f2.f5), .int .i64 ((rd_T46 l1 x16_1).f2.f6)]] rfl (by (try simp only [List.map_toArray, List.map_cons, List.map_nil]); first | done | rfl | (simp only [List.length_drop, List.length_take]; rfl)) ?_; (with_reducible refine (search_forbids.calls kj21 a0_0 a0_1 a0_2 a0_3 a0_4 a0_5 a0_6 a0_7 a0_8 a0_9 a0_10 a0_11 ((rd_T46 l1 x16_1).f0) ((rd_T46 l1 x16_1).f1) ((rd_T46 l1 x16_1).f2.f0) ((rd_T46 l1 x16_1).f2.f1) ((rd_T46 l1 x16_1).f2.f2) ((rd_T46 l1 x16_1).f2.f3) ((rd_T46 l1 x16_1).f2.f4) ((rd_T46 l1 x16_1).f2.f5) ((rd_T46 l1 x16_1).f2.f6) false _ A40.out).mono ?_); rintro e w64 ⟨rfl, hb⟩; refine ⟨_, rfl, ?_⟩; have n0_ := Aside0.mk (Kd.R_below (rq HO_7.out) hb); have n1_ := Aside0.mk (blk_below (bg BK143.out) hb); have n2_ := Aside0.mk (blk_below (bg BK148.out) hb); have n3_ := Aside0.mk (below_step (bs HB.out) hb); clear HO_7; clear BK143; clear BK148; clear HB; have HO_7 := n0_; have BK143 := n1_; have BK148 := n2_; have HB := n3_; clear n0_ n1_ n2_ n3_; (try clear hb); (try clear hb2); (try clear hk); (try clear hi); have p154 : 0 ≤ (x16_1 : Int) := of_decide_eq_true (by first | (with_reducible assumption) | assumption); have q154 : x16_1 < (l2.length : Int) := of_decide_eq_true (by first | (with_reducible assumption) | assumption); obtain ⟨ad154, e154, hx154_0⟩ := Kd.at_bool HR2.out x16_1 p154 q154; (try rw [← Nbq58.out] at hx154_0); cases e154; replace hx154_0 := pw_cell_below HB.out hx154_0; replace p154 := eq_true p154; replace q154 := eq_true q154; obtain ⟨hcz65_0, hcz65_1, hcz65_2, hcz65_3, hcz65_4, hcz65_5, hcz65_6, hcz65_7, hcz65_8⟩ := bc9 BK148.out; obtain ⟨hfz65_0, hfz65_1, hfz65_2, hfz65_3, hfz65_4, hfz65_5, hfz65_6, hfz65_7, hfz65_8⟩ := bf9 BK148.out))
                go_roundg kj21
                case measure => have := HK1.out; have := HJ11.out; have := HJ21.out; omega
                case rel => (try rw [Nbq58.out] at H'); (try rw [Nbq58.out] at BK143); (try rw [Nbq58.out] at BK148); exact ⟨(x7_21), (ji60), (wrap64 (x16_1 + 1)), (by first | rfl | (simp; done) | (simp only [← hji60] <;> (first | rfl | simp)) | (simp [*]; done)), (by first | rfl | (simp; done) | (simp [*]; done)), H', ⟨by have := HK1.out; have := HJ11.out; have := HJ21.out; omega⟩, ⟨by (with_reducible repeat (first | apply Kd.R_alloc | apply Kd.R_drewN | apply Kd.R_drew)); exact HO_7.out⟩, ⟨bg BK143.out⟩, ⟨bs HB.out⟩⟩
               ·
                replace c59 := Bool.eq_false_iff.mpr c59
                subst c59
                have H1 : (search_reach.l0 kj21 l2 x7_21 x8_1 l1 (l1.length : Int) (wrap64 (x16_1 + 1)) a0_0 a0_1 a0_2 a0_3 a0_4 a0_5 a0_6 a0_7 a0_8 a0_9 a0_10 a0_11) = some r := by rw [if_neg (show ¬ (false = true) by decide)] at H; exact H
                clear H
                have H := H1
                clear H1
                have H' := Aside0.mk H
                clear H
                have hnb66 := NB143_148.out
                have hnc66 := NB148_143.out
                obtain ⟨hcz67_0, hcz67_1, hcz67_2, hcz67_3, hcz67_4, hcz67_5, hcz67_6, hcz67_7, hcz67_8, hcz67_9, hcz67_10, hcz67_11⟩ := bc12 BK143.out
                obtain ⟨hfz67_0, hfz67_1, hfz67_2, hfz67_3, hfz67_4, hfz67_5, hfz67_6, hfz67_7, hfz67_8, hfz67_9, hfz67_10, hfz67_11⟩ := bf12 BK143.out
                obtain ⟨hcz68_0, hcz68_1, hcz68_2, hcz68_3, hcz68_4, hcz68_5, hcz68_6, hcz68_7, hcz68_8⟩ := bc9 BK148.out
                obtain ⟨hfz68_0, hfz68_1, hfz68_2, hfz68_3, hfz68_4, hfz68_5, hfz68_6, hfz68_7, hfz68_8⟩ := bf9 BK148.out
                go_wp2_with (first | ((with_reducible refine gate_callee (f := 64) rfl ?_); refine goesL_ (some 46) rfl rfl Try.func64 (by kernel_rfl) rfl #[.agg #[.int .i64 a0_0, .int .i64 a0_1, .int .i64 a0_2, .int .i64 a0_3, .int .i64 a0_4, .int .i64 a0_5, .bool a0_6, .int .i64 a0_7, .int .i64 a0_8, .int .i64 a0_9, .int .i64 a0_10, .int .i64 a0_11], .agg #[.int .i64 ((rd_T46 l1 x16_1).f0), .int .i64 ((rd_T46 l1 x16_1).f1), .int .i64 ((rd_T46 l1 x16_1).f2.f0), .int .i64 ((rd_T46 l1 x16_1).f2.f1), .int .i64 ((rd_T46 l1 x16_1).f2.f2), .int .i64 ((rd_T46 l1 x16_1).f2.f3), .int .i64 ((rd_T46 l1 x16_1).f2.f4), .string ((rd_T46 l1 x16_1).f2.f5), .int .i64 ((rd_T46 l1 x16_1).f2.f6)]] rfl (by (try simp only [List.map_toArray, List.map_cons, List.map_nil]); first | done | rfl | (simp only [List.length_drop, List.length_take]; rfl)) ?_; (with_reducible refine (search_forbids.calls kj21 a0_0 a0_1 a0_2 a0_3 a0_4 a0_5 a0_6 a0_7 a0_8 a0_9 a0_10 a0_11 ((rd_T46 l1 x16_1).f0) ((rd_T46 l1 x16_1).f1) ((rd_T46 l1 x16_1).f2.f0) ((rd_T46 l1 x16_1).f2.f1) ((rd_T46 l1 x16_1).f2.f2) ((rd_T46 l1 x16_1).f2.f3) ((rd_T46 l1 x16_1).f2.f4) ((rd_T46 l1 x16_1).f2.f5) ((rd_T46 l1 x16_1).f2.f6) false _ A40.out).mono ?_); rintro e w69 ⟨rfl, hb⟩; refine ⟨_, rfl, ?_⟩; have n0_ := Aside0.mk (Kd.R_below (rq HO_7.out) hb); have n1_ := Aside0.mk (blk_below (bg BK143.out) hb); have n2_ := Aside0.mk (blk_below (bg BK148.out) hb); have n3_ := Aside0.mk (below_step (bs HB.out) hb); clear HO_7; clear BK143; clear BK148; clear HB; have HO_7 := n0_; have BK143 := n1_; have BK148 := n2_; have HB := n3_; clear n0_ n1_ n2_ n3_; (try clear hb); (try clear hb2); (try clear hk); (try clear hi); have p154 : 0 ≤ (x16_1 : Int) := of_decide_eq_true (by first | (with_reducible assumption) | assumption); have q154 : x16_1 < (l2.length : Int) := of_decide_eq_true (by first | (with_reducible assumption) | assumption); obtain ⟨ad154, e154, hx154_0⟩ := Kd.at_bool HR2.out x16_1 p154 q154; (try rw [← Nbq58.out] at hx154_0); cases e154; replace hx154_0 := pw_cell_below HB.out hx154_0; replace p154 := eq_true p154; replace q154 := eq_true q154))
                go_roundg kj21
                case measure => have := HK1.out; have := HJ11.out; have := HJ21.out; omega
                case rel => (try rw [Nbq58.out] at H'); exact ⟨(x7_21), (x8_1), (wrap64 (x16_1 + 1)), (by first | rfl | (simp; done) | (simp [*]; done)), (by first | rfl | (simp; done) | (simp [*]; done)), H', ⟨by have := HK1.out; have := HJ11.out; have := HJ21.out; omega⟩, ⟨by (with_reducible repeat (first | apply Kd.R_alloc | apply Kd.R_drewN | apply Kd.R_drew)); exact HO_7.out⟩, ⟨bg BK143.out⟩, ⟨bs HB.out⟩⟩
              ·
               rw [if_neg c57] at H
               exact absurd H (by simp)
             ·
              rw [if_neg c56] at H
              exact absurd H (by simp)
       ·
        rw [if_neg c11] at H
        exact absurd H (by simp)
      ·
       rw [if_neg c10] at H
       exact absurd H (by simp)
     ·
      rw [if_neg c9] at H
      have c9b0 : decide (x16_1 < (l1.length : Int)) = false := decide_eq_false c9
      clear c9
      obtain rfl := Option.some.inj H
      go_wp2
      go_ret
      exact ⟨_, by first | rfl | (simp [errW_none, errW_some] <;> rfl) | (simp [*, errW_none, errW_some] <;> rfl), by (with_reducible repeat (first | apply Kd.R_alloc | apply Kd.R_drewN | apply Kd.R_drew)); exact HO_7.out, bs HB.out⟩
  ·
   rw [if_neg c5] at H
   exact absurd H (by simp)
 ·
  rw [if_neg c4] at H
  exact absurd H (by simp)

end Go.Proofs.Ytgdjiphljadlcaa.K
