-- Printed by wip/hprint.py (this project's own driver of the kit's print) out of the translation; Lean checks it.
import Derived.Test.YtbkncndagheijaaH0
namespace Go.Proofs.Ytbkncndagheijaa.H
open Go.RowKit Go.Proofs.YtbkncndagheijaaW.PrintWords Go.Proofs.YtbkncndagheijaaW.PrintLast Go.Proofs.YtbkncndagheijaaW.PrintMore
attribute [local go_sem] max2_int min2_int max_two min_two max_three min_three max_four min_four   -- for this text's walks alone
set_option linter.unusedVariables false
set_option linter.unusedSimpArgs false

/-! ### signalbenchref54_Check: function 17 -/
mutual
def signalbenchref54_Check.l0 : Nat → List ByteArray → List ByteArray → List (S43) → Int → Int → Int → Option (Bool)
 | 0, _, _, _, _, _, _ => none
 | k + 1, x0, x1, x2, x7, x8, x9 => if x9 < (x2.length : Int) then (if 0 ≤ x9 then (if ((rd_T43 x2 x9).f0) = (-1) then (if ((rd_T43 x2 x9).f1) = (-1) then (signalbenchref54_Check.j1 k x0 x1 x2 x7 x8 x9 true ((rd_T43 x2 x9).f0) ((rd_T43 x2 x9).f1)) else (signalbenchref54_Check.j1 k x0 x1 x2 x7 x8 x9 (((rd_T43 x2 x9).f1) != x8) ((rd_T43 x2 x9).f0) ((rd_T43 x2 x9).f1))) else (if ((rd_T43 x2 x9).f0) = x7 then (if ((rd_T43 x2 x9).f1) = (-1) then (signalbenchref54_Check.j1 k x0 x1 x2 x7 x8 x9 false ((rd_T43 x2 x9).f0) ((rd_T43 x2 x9).f1)) else (signalbenchref54_Check.j1 k x0 x1 x2 x7 x8 x9 (((rd_T43 x2 x9).f1) != x8) ((rd_T43 x2 x9).f0) ((rd_T43 x2 x9).f1))) else (signalbenchref54_Check.j1 k x0 x1 x2 x7 x8 x9 true ((rd_T43 x2 x9).f0) ((rd_T43 x2 x9).f1)))) else (none)) else (if x7 = (x0.length : Int) then (some (x8 == (x1.length : Int))) else (some false))
def signalbenchref54_Check.j1 : Nat → List ByteArray → List ByteArray → List (S43) → Int → Int → Int → Bool → Int → Int → Option (Bool)
 | 0, _, _, _, _, _, _, _, _, _ => none
 | k + 1, x0, x1, x2, x7, x8, x9, x50, x267000, x267001 => if x50 = true then (some false) else (if x267000 ≥ (x0.length : Int) then (signalbenchref54_Check.j2 k x0 x1 x2 x7 x8 x9 true x267000 x267001) else (signalbenchref54_Check.j2 k x0 x1 x2 x7 x8 x9 (decide (x267001 ≥ (x1.length : Int))) x267000 x267001))
def signalbenchref54_Check.j2 : Nat → List ByteArray → List ByteArray → List (S43) → Int → Int → Int → Bool → Int → Int → Option (Bool)
 | 0, _, _, _, _, _, _, _, _, _ => none
 | k + 1, x0, x1, x2, x7, x8, x9, x62, x267000, x267001 => if x62 = true then (some false) else (if x267000 ≥ 0 then (if x267001 ≥ 0 then (if 0 ≤ x267000 then (if x267000 < (x0.length : Int) then (if 0 ≤ x267001 then (if x267001 < (x1.length : Int) then (signalbenchref54_Check.j3 k x0 x1 x2 x7 x8 x9 ((rdOf ByteArray.empty x0 x267000).toList != (rdOf ByteArray.empty x1 x267001).toList) x267000 x267001) else (none)) else (none)) else (none)) else (none)) else (signalbenchref54_Check.j3 k x0 x1 x2 x7 x8 x9 false x267000 x267001)) else (signalbenchref54_Check.j3 k x0 x1 x2 x7 x8 x9 false x267000 x267001))
def signalbenchref54_Check.j3 : Nat → List ByteArray → List ByteArray → List (S43) → Int → Int → Int → Bool → Int → Int → Option (Bool)
 | 0, _, _, _, _, _, _, _, _, _ => none
 | k + 1, x0, x1, x2, x7, x8, x9, x83, x267000, x267001 => if x83 = true then (some false) else (if x267000 ≥ 0 then (if x267001 ≥ 0 then (signalbenchref54_Check.l0 k x0 x1 x2 (wrap64 (x7 + 1)) (wrap64 (x8 + 1)) (wrap64 (x9 + 1))) else (signalbenchref54_Check.l0 k x0 x1 x2 (wrap64 (x7 + 1)) x8 (wrap64 (x9 + 1)))) else (if x267001 ≥ 0 then (signalbenchref54_Check.l0 k x0 x1 x2 x7 (wrap64 (x8 + 1)) (wrap64 (x9 + 1))) else (signalbenchref54_Check.l0 k x0 x1 x2 x7 x8 (wrap64 (x9 + 1)))))
end
def signalbenchref54_Check.f (k : Nat) (l0 : List ByteArray) (l1 : List ByteArray) (l2 : List (S43)) : Option (Bool) := signalbenchref54_Check.l0 k l0 l1 l2 0 0 0
theorem signalbenchref54_Check.mono_l : ∀ k, (∀ y0 y1 y2 y3 y4 y5, LeO (signalbenchref54_Check.l0 k y0 y1 y2 y3 y4 y5) (signalbenchref54_Check.l0 (k + 1) y0 y1 y2 y3 y4 y5)) ∧ (∀ y0 y1 y2 y3 y4 y5 y6 y7 y8, LeO (signalbenchref54_Check.j1 k y0 y1 y2 y3 y4 y5 y6 y7 y8) (signalbenchref54_Check.j1 (k + 1) y0 y1 y2 y3 y4 y5 y6 y7 y8)) ∧ (∀ y0 y1 y2 y3 y4 y5 y6 y7 y8, LeO (signalbenchref54_Check.j2 k y0 y1 y2 y3 y4 y5 y6 y7 y8) (signalbenchref54_Check.j2 (k + 1) y0 y1 y2 y3 y4 y5 y6 y7 y8)) ∧ (∀ y0 y1 y2 y3 y4 y5 y6 y7 y8, LeO (signalbenchref54_Check.j3 k y0 y1 y2 y3 y4 y5 y6 y7 y8) (signalbenchref54_Check.j3 (k + 1) y0 y1 y2 y3 y4 y5 y6 y7 y8))
 | 0 => ⟨fun _ _ _ _ _ _ r h => by simp [signalbenchref54_Check.l0] at h, fun _ _ _ _ _ _ _ _ _ r h => by simp [signalbenchref54_Check.j1] at h, fun _ _ _ _ _ _ _ _ _ r h => by simp [signalbenchref54_Check.j2] at h, fun _ _ _ _ _ _ _ _ _ r h => by simp [signalbenchref54_Check.j3] at h⟩
 | k + 1 => by
  obtain ⟨ih0, ih1, ih2, ih3⟩ := signalbenchref54_Check.mono_l k
  refine ⟨?_, ?_, ?_, ?_⟩
  ·
   intro y0 y1 y2 y3 y4 y5
   unfold signalbenchref54_Check.l0
   repeat' first
   | (with_reducible exact ih0 _ _ _ _ _ _)
   | (with_reducible exact ih1 _ _ _ _ _ _ _ _ _)
   | (with_reducible exact ih2 _ _ _ _ _ _ _ _ _)
   | (with_reducible exact ih3 _ _ _ _ _ _ _ _ _)
   | (with_reducible exact LeO.refl _)
   | (with_reducible exact LeO.none _)
   | (with_reducible refine LeO.ite ?_ ?_)
   | (with_reducible refine LeO.bind ?_ (fun _ => ?_))
   | exact ih0 _ _ _ _ _ _
   | exact ih1 _ _ _ _ _ _ _ _ _
   | exact ih2 _ _ _ _ _ _ _ _ _
   | exact ih3 _ _ _ _ _ _ _ _ _
   | exact LeO.none _
   | refine LeO.ite ?_ ?_
   | refine LeO.bind ?_ (fun _ => ?_)
  ·
   intro y0 y1 y2 y3 y4 y5 y6 y7 y8
   unfold signalbenchref54_Check.j1
   repeat' first
   | (with_reducible exact ih0 _ _ _ _ _ _)
   | (with_reducible exact ih1 _ _ _ _ _ _ _ _ _)
   | (with_reducible exact ih2 _ _ _ _ _ _ _ _ _)
   | (with_reducible exact ih3 _ _ _ _ _ _ _ _ _)
   | (with_reducible exact LeO.refl _)
   | (with_reducible exact LeO.none _)
   | (with_reducible refine LeO.ite ?_ ?_)
   | (with_reducible refine LeO.bind ?_ (fun _ => ?_))
   | exact ih0 _ _ _ _ _ _
   | exact ih1 _ _ _ _ _ _ _ _ _
   | exact ih2 _ _ _ _ _ _ _ _ _
   | exact ih3 _ _ _ _ _ _ _ _ _
   | exact LeO.none _
   | refine LeO.ite ?_ ?_
   | refine LeO.bind ?_ (fun _ => ?_)
  ·
   intro y0 y1 y2 y3 y4 y5 y6 y7 y8
   unfold signalbenchref54_Check.j2
   repeat' first
   | (with_reducible exact ih0 _ _ _ _ _ _)
   | (with_reducible exact ih1 _ _ _ _ _ _ _ _ _)
   | (with_reducible exact ih2 _ _ _ _ _ _ _ _ _)
   | (with_reducible exact ih3 _ _ _ _ _ _ _ _ _)
   | (with_reducible exact LeO.refl _)
   | (with_reducible exact LeO.none _)
   | (with_reducible refine LeO.ite ?_ ?_)
   | (with_reducible refine LeO.bind ?_ (fun _ => ?_))
   | exact ih0 _ _ _ _ _ _
   | exact ih1 _ _ _ _ _ _ _ _ _
   | exact ih2 _ _ _ _ _ _ _ _ _
   | exact ih3 _ _ _ _ _ _ _ _ _
   | exact LeO.none _
   | refine LeO.ite ?_ ?_
   | refine LeO.bind ?_ (fun _ => ?_)
  ·
   intro y0 y1 y2 y3 y4 y5 y6 y7 y8
   unfold signalbenchref54_Check.j3
   repeat' first
   | (with_reducible exact ih0 _ _ _ _ _ _)
   | (with_reducible exact ih1 _ _ _ _ _ _ _ _ _)
   | (with_reducible exact ih2 _ _ _ _ _ _ _ _ _)
   | (with_reducible exact ih3 _ _ _ _ _ _ _ _ _)
   | (with_reducible exact LeO.refl _)
   | (with_reducible exact LeO.none _)
   | (with_reducible refine LeO.ite ?_ ?_)
   | (with_reducible refine LeO.bind ?_ (fun _ => ?_))
   | exact ih0 _ _ _ _ _ _
   | exact ih1 _ _ _ _ _ _ _ _ _
   | exact ih2 _ _ _ _ _ _ _ _ _
   | exact ih3 _ _ _ _ _ _ _ _ _
   | exact LeO.none _
   | refine LeO.ite ?_ ?_
   | refine LeO.bind ?_ (fun _ => ?_)
theorem signalbenchref54_Check.mono : ∀ a0 a1 a2 k, LeO (signalbenchref54_Check.f k a0 a1 a2) (signalbenchref54_Check.f (k + 1) a0 a1 a2) := by
 intro a0 a1 a2 k
 obtain ⟨ih0, ih1, ih2, ih3⟩ := signalbenchref54_Check.mono_l k
 unfold signalbenchref54_Check.f
 repeat' first
   | (with_reducible exact ih0 _ _ _ _ _ _)
   | (with_reducible exact ih1 _ _ _ _ _ _ _ _ _)
   | (with_reducible exact ih2 _ _ _ _ _ _ _ _ _)
   | (with_reducible exact ih3 _ _ _ _ _ _ _ _ _)
   | (with_reducible exact LeO.refl _)
   | (with_reducible exact LeO.none _)
   | (with_reducible refine LeO.ite ?_ ?_)
   | (with_reducible refine LeO.bind ?_ (fun _ => ?_))
   | exact ih0 _ _ _ _ _ _
   | exact ih1 _ _ _ _ _ _ _ _ _
   | exact ih2 _ _ _ _ _ _ _ _ _
   | exact ih3 _ _ _ _ _ _ _ _ _
   | exact LeO.none _
   | refine LeO.ite ?_ ?_
   | refine LeO.bind ?_ (fun _ => ?_)
set_option maxHeartbeats 8000000 in
set_option maxRecDepth 100000 in
theorem signalbenchref54_Check.calls (k : Nat) (A0 : Option Addr) (c0 : Nat) (l0 : List ByteArray) (A1 : Option Addr) (c1 : Nat) (l1 : List ByteArray) (A2 : Option Addr) (c2 : Nat) (l2 : List (S43)) (r : Bool) (w : World) (hr0 : Kd.C Kd.string w A0 l0.length l0) (hc0 : l0.length ≤ c0) (hr1 : Kd.C Kd.string w A1 l1.length l1) (hc1 : l1.length ≤ c1) (hr2 : Kd.C k43 w A2 l2.length l2) (hc2 : l2.length ≤ c2) (h : signalbenchref54_Check.f k l0 l1 l2 = some r) :
  Calls Try.prog 17 #[.slice A0 l0.length c0, .slice A1 l1.length c1, .slice A2 l2.length c2] w fun e w' => e = .returned (.bool r) ∧ Below w.heap.size w w' := by
 have hu43 := Try.underlying43
 have HR0 := Aside0.mk hr0
 have HC0 := Aside0.mk hc0
 clear hr0 hc0
 have HR1 := Aside0.mk hr1
 have HC1 := Aside0.mk hc1
 clear hr1 hc1
 have HR2 := Aside0.mk hr2
 have HC2 := Aside0.mk hc2
 clear hr2 hc2
 have HB := Aside0.mk (Below.refl w.heap.size w)
 have H : (signalbenchref54_Check.l0 k l0 l1 l2 0 0 0) = some r := h
 clear h
 have H' := Aside0.mk H
 clear H
 go_enter Try.func17, Try.ntmps17
 go_wp2
 repeat (go_quiet (fail); try go_wp2)
 go_loopg [7, 8, 9] k (fun kq v7 v8 v9 w' => ∃ (x7_1 : Int) (x8_1 : Int) (x9_1 : Int), v7 = .int .i64 x7_1 ∧ v8 = .int .i64 x8_1 ∧ v9 = .int .i64 x9_1 ∧ Aside0 (signalbenchref54_Check.l0 kq l0 l1 l2 x7_1 x8_1 x9_1 = some r) ∧ Aside0 (kq ≤ k) ∧ Aside0 (Below w.heap.size w w'))
 case atStart => exact ⟨(0), (0), (0), (by first | rfl | (simp; done) | (simp [*]; done)), (by first | rfl | (simp; done) | (simp [*]; done)), (by first | rfl | (simp; done) | (simp [*]; done)), H', ⟨Nat.le_refl _⟩, ⟨by repeat (first | (with_reducible first | exact HB.out | apply below_alloc | apply pw_below_drewN | apply below_drew1) | exact HB.out)⟩⟩
 case round =>
  clear H'
  try clear c1
  try clear c2
  try clear p2
  obtain ⟨x7_1, x8_1, x9_1, rfl, rfl, rfl, HA, HK1, HB⟩ := hrel
  cases gk with
  | zero => exact absurd HA.out (by simp [signalbenchref54_Check.l0])
  | succ k1 =>
   have H := HA.out
   clear HA
   simp only [signalbenchref54_Check.l0] at H
   by_cases c4 : x9_1 < (l2.length : Int)
   ·
    rw [if_pos c4] at H
    have c4b0 : decide (x9_1 < (l2.length : Int)) = true := decide_eq_true c4
    clear c4
    by_cases c5 : 0 ≤ x9_1
    ·
     rw [if_pos c5] at H
     have c5b0 : decide (0 ≤ x9_1) = true := decide_eq_true c5
     clear c5
     have HC6 := Aside0.mk H
     clear H
     have p265 : 0 ≤ (x9_1 : Int) := of_decide_eq_true (by first | (with_reducible assumption) | assumption)
     have q265 : x9_1 < (l2.length : Int) := of_decide_eq_true (by first | (with_reducible assumption) | assumption)
     obtain ⟨ad265, e265, hx265_0, hx265_1⟩ := at_T43 HR2.out x9_1 p265 q265
     cases e265
     replace hx265_0 := (HB.out.cell (World.block_lt_of_cell? w _ hx265_0)).trans hx265_0
     replace hx265_1 := (HB.out.cell (World.block_lt_of_cell? w _ hx265_1)).trans hx265_1
     replace p265 := eq_true p265
     replace q265 := eq_true q265
     go_upto_region 6 with (first | ((with_reducible refine gate_dst (N := 10) rfl ?_); refine box_event ?hg (N := 10) ?hd (cs := #[.int .i64 0, .int .i64 0]) (t := 43) ?hr ?_; (case hd => rfl); (case hg => rfl); (case hr => first | (go_simp; done) | (go_simp; rfl)); intro gb266 hg w7 hbox hb; have n0_ := Aside0.mk (below_step (by repeat (first | (with_reducible first | exact HB.out | apply below_alloc | apply pw_below_drewN | apply below_drew1) | exact HB.out)) hb); have n1_ := Aside0.mk (hbox); have n2_ := Aside0.mk ((by rw [hg]; exact (below_size (by repeat (first | (with_reducible first | exact HB.out | apply below_alloc | apply pw_below_drewN | apply below_drew1) | exact HB.out))) : w.heap.size ≤ gb266)); have n3_ := Aside0.mk ((by rw [hg]; exact (below_size (by repeat (first | (with_reducible first | exact HB.out | apply below_alloc | apply pw_below_drewN | apply below_drew1) | exact HB.out))) : w.heap.size ≤ gb266)); clear HB; have HB := n0_; have BK266 := n1_; have GW266 := n2_; have GE266 := n3_; clear n0_ n1_ n2_ n3_; clear hb hbox hg; have hcz8_0 : w7.cell? ⟨gb266, 0, none⟩ = some (.int .i64 0) := (blk_cell BK266.out 0).trans rfl; have hcz8_1 : w7.cell? ⟨gb266, 1, none⟩ = some (.int .i64 0) := (blk_cell BK266.out 1).trans rfl; have hfz8_0 := blk_frozen BK266.out 0; have hfz8_1 := blk_frozen BK266.out 1))
     repeat (go_quiet (first | ((with_reducible refine gate_dst (N := 10) rfl ?_); refine box_event ?hg (N := 10) ?hd (cs := #[.int .i64 0, .int .i64 0]) (t := 43) ?hr ?_; (case hd => rfl); (case hg => rfl); (case hr => first | (go_simp; done) | (go_simp; rfl)); intro gb266 hg w7 hbox hb; have n0_ := Aside0.mk (below_step (by repeat (first | (with_reducible first | exact HB.out | apply below_alloc | apply pw_below_drewN | apply below_drew1) | exact HB.out)) hb); have n1_ := Aside0.mk (hbox); have n2_ := Aside0.mk ((by rw [hg]; exact (below_size (by repeat (first | (with_reducible first | exact HB.out | apply below_alloc | apply pw_below_drewN | apply below_drew1) | exact HB.out))) : w.heap.size ≤ gb266)); have n3_ := Aside0.mk ((by rw [hg]; exact (below_size (by repeat (first | (with_reducible first | exact HB.out | apply below_alloc | apply pw_below_drewN | apply below_drew1) | exact HB.out))) : w.heap.size ≤ gb266)); clear HB; have HB := n0_; have BK266 := n1_; have GW266 := n2_; have GE266 := n3_; clear n0_ n1_ n2_ n3_; clear hb hbox hg; have hcz8_0 : w7.cell? ⟨gb266, 0, none⟩ = some (.int .i64 0) := (blk_cell BK266.out 0).trans rfl; have hcz8_1 : w7.cell? ⟨gb266, 1, none⟩ = some (.int .i64 0) := (blk_cell BK266.out 1).trans rfl; have hfz8_0 := blk_frozen BK266.out 0; have hfz8_1 := blk_frozen BK266.out 1)); go_upto_region 6 with (first | ((with_reducible refine gate_dst (N := 10) rfl ?_); refine box_event ?hg (N := 10) ?hd (cs := #[.int .i64 0, .int .i64 0]) (t := 43) ?hr ?_; (case hd => rfl); (case hg => rfl); (case hr => first | (go_simp; done) | (go_simp; rfl)); intro gb266 hg w7 hbox hb; have n0_ := Aside0.mk (below_step (by repeat (first | (with_reducible first | exact HB.out | apply below_alloc | apply pw_below_drewN | apply below_drew1) | exact HB.out)) hb); have n1_ := Aside0.mk (hbox); have n2_ := Aside0.mk ((by rw [hg]; exact (below_size (by repeat (first | (with_reducible first | exact HB.out | apply below_alloc | apply pw_below_drewN | apply below_drew1) | exact HB.out))) : w.heap.size ≤ gb266)); have n3_ := Aside0.mk ((by rw [hg]; exact (below_size (by repeat (first | (with_reducible first | exact HB.out | apply below_alloc | apply pw_below_drewN | apply below_drew1) | exact HB.out))) : w.heap.size ≤ gb266)); clear HB; have HB := n0_; have BK266 := n1_; have GW266 := n2_; have GE266 := n3_; clear n0_ n1_ n2_ n3_; clear hb hbox hg; have hcz8_0 : w7.cell? ⟨gb266, 0, none⟩ = some (.int .i64 0) := (blk_cell BK266.out 0).trans rfl; have hcz8_1 : w7.cell? ⟨gb266, 1, none⟩ = some (.int .i64 0) := (blk_cell BK266.out 1).trans rfl; have hfz8_0 := blk_frozen BK266.out 0; have hfz8_1 := blk_frozen BK266.out 1)))
     (try simp only [Act.put, List.setIfInBounds_toArray, List.set_cons_zero, List.set_cons_succ])
     go_cut [50] (fun v50 wc => ∃ (kq : Nat) (x50_5 : Bool), v50 = .bool x50_5 ∧ Aside0 (signalbenchref54_Check.j1 kq l0 l1 l2 x7_1 x8_1 x9_1 x50_5 ((rd_T43 l2 x9_1).f0) ((rd_T43 l2 x9_1).f1) = some r) ∧ Aside0 (kq ≤ k1) ∧ Aside0 (wc.heap[gb266]? = some (.cells #[.int .i64 ((rd_T43 l2 x9_1).f0), .int .i64 ((rd_T43 l2 x9_1).f1)] 43 (0, 0))) ∧ Aside0 (Below w.heap.size w wc))
     case first =>
      have H := HC6.out
      clear HC6
      by_cases c9 : ((rd_T43 l2 x9_1).f0) = (-1)
      ·
       rw [if_pos c9] at H
       have c9b0 : (((rd_T43 l2 x9_1).f0) == (-1)) = true := beq_iff_eq.mpr c9
       have c9b1 : (((rd_T43 l2 x9_1).f0) != (-1)) = false := bne_eq_false_iff_eq.mpr c9
       clear c9
       (first | rw [c9b0] | (simp only [i64_w, i32_w]; rw [c9b0]) | skip)
       by_cases c10 : ((rd_T43 l2 x9_1).f1) = (-1)
       ·
        rw [if_pos c10] at H
        have c10b0 : (((rd_T43 l2 x9_1).f1) == (-1)) = true := beq_iff_eq.mpr c10
        have c10b1 : (((rd_T43 l2 x9_1).f1) != (-1)) = false := bne_eq_false_iff_eq.mpr c10
        clear c10
        have H' := Aside0.mk H
        clear H
        have hcz11_0 : w7.cell? ⟨gb266, 0, none⟩ = some (.int .i64 0) := (blk_cell BK266.out 0).trans rfl
        have hcz11_1 : w7.cell? ⟨gb266, 1, none⟩ = some (.int .i64 0) := (blk_cell BK266.out 1).trans rfl
        have hfz11_0 := blk_frozen BK266.out 0
        have hfz11_1 := blk_frozen BK266.out 1
        go_wp2
        repeat (go_quiet (fail); try go_wp2)
        go_meet
        case rel => exact ⟨_, (true), (by first | rfl | (simp; done) | (simp [*]; done)), H', ⟨by have := HK1.out; first | omega | exact Nat.le_refl _⟩, ⟨by (with_reducible repeat (first | refine blk_drewN ?_ _ | refine blk_drew ?_ | refine blk_alloc ?_ _)); refine blk_put (cs := #[.int .i64 ((rd_T43 l2 x9_1).f0), .int .i64 0]) ?_ 1 _ rfl; (with_reducible repeat (first | refine blk_drewN ?_ _ | refine blk_drew ?_ | refine blk_alloc ?_ _)); refine blk_put (cs := #[.int .i64 0, .int .i64 0]) ?_ 0 _ rfl; (with_reducible repeat (first | refine blk_drewN ?_ _ | refine blk_drew ?_ | refine blk_alloc ?_ _)); exact BK266.out⟩, ⟨by repeat (first | (with_reducible first | exact HB.out | apply below_alloc | apply pw_below_drewN | apply below_drew1 | refine below_set ?_ GE266.out) | exact HB.out)⟩⟩
       ·
        rw [if_neg c10] at H
        have c10b0 : (((rd_T43 l2 x9_1).f1) == (-1)) = false := beq_eq_false_iff_ne.mpr c10
        have c10b1 : (((rd_T43 l2 x9_1).f1) != (-1)) = true := bne_iff_ne.mpr c10
        have H' := Aside0.mk H
        clear H
        have hcz12_0 : w7.cell? ⟨gb266, 0, none⟩ = some (.int .i64 0) := (blk_cell BK266.out 0).trans rfl
        have hcz12_1 : w7.cell? ⟨gb266, 1, none⟩ = some (.int .i64 0) := (blk_cell BK266.out 1).trans rfl
        have hfz12_0 := blk_frozen BK266.out 0
        have hfz12_1 := blk_frozen BK266.out 1
        go_wp2
        repeat (go_quiet (fail); try go_wp2)
        go_meet
        case rel => exact ⟨_, ((((rd_T43 l2 x9_1).f1) != x8_1)), (by first | rfl | (simp; done) | (simp [*]; done)), H', ⟨by have := HK1.out; first | omega | exact Nat.le_refl _⟩, ⟨by (with_reducible repeat (first | refine blk_drewN ?_ _ | refine blk_drew ?_ | refine blk_alloc ?_ _)); refine blk_put (cs := #[.int .i64 ((rd_T43 l2 x9_1).f0), .int .i64 0]) ?_ 1 _ rfl; (with_reducible repeat (first | refine blk_drewN ?_ _ | refine blk_drew ?_ | refine blk_alloc ?_ _)); refine blk_put (cs := #[.int .i64 0, .int .i64 0]) ?_ 0 _ rfl; (with_reducible repeat (first | refine blk_drewN ?_ _ | refine blk_drew ?_ | refine blk_alloc ?_ _)); exact BK266.out⟩, ⟨by repeat (first | (with_reducible first | exact HB.out | apply below_alloc | apply pw_below_drewN | apply below_drew1 | refine below_set ?_ GE266.out) | exact HB.out)⟩⟩
      ·
       rw [if_neg c9] at H
       have c9b0 : (((rd_T43 l2 x9_1).f0) == (-1)) = false := beq_eq_false_iff_ne.mpr c9
       have c9b1 : (((rd_T43 l2 x9_1).f0) != (-1)) = true := bne_iff_ne.mpr c9
       (first | rw [c9b0] | (simp only [i64_w, i32_w]; rw [c9b0]) | skip)
       by_cases c13 : ((rd_T43 l2 x9_1).f0) = x7_1
       ·
        rw [if_pos c13] at H
        have c13b0 : (((rd_T43 l2 x9_1).f0) == x7_1) = true := beq_iff_eq.mpr c13
        have c13b1 : (((rd_T43 l2 x9_1).f0) != x7_1) = false := bne_eq_false_iff_eq.mpr c13
        clear c13
        by_cases c14 : ((rd_T43 l2 x9_1).f1) = (-1)
        ·
         rw [if_pos c14] at H
         have c14b0 : (((rd_T43 l2 x9_1).f1) == (-1)) = true := beq_iff_eq.mpr c14
         have c14b1 : (((rd_T43 l2 x9_1).f1) != (-1)) = false := bne_eq_false_iff_eq.mpr c14
         clear c14
         have H' := Aside0.mk H
         clear H
         have hcz15_0 : w7.cell? ⟨gb266, 0, none⟩ = some (.int .i64 0) := (blk_cell BK266.out 0).trans rfl
         have hcz15_1 : w7.cell? ⟨gb266, 1, none⟩ = some (.int .i64 0) := (blk_cell BK266.out 1).trans rfl
         have hfz15_0 := blk_frozen BK266.out 0
         have hfz15_1 := blk_frozen BK266.out 1
         go_wp2
         repeat (go_quiet (fail); try go_wp2)
         go_meet
         case rel => exact ⟨_, (false), (by first | rfl | (simp; done) | (simp [*]; done)), H', ⟨by have := HK1.out; first | omega | exact Nat.le_refl _⟩, ⟨by (with_reducible repeat (first | refine blk_drewN ?_ _ | refine blk_drew ?_ | refine blk_alloc ?_ _)); refine blk_put (cs := #[.int .i64 ((rd_T43 l2 x9_1).f0), .int .i64 0]) ?_ 1 _ rfl; (with_reducible repeat (first | refine blk_drewN ?_ _ | refine blk_drew ?_ | refine blk_alloc ?_ _)); refine blk_put (cs := #[.int .i64 0, .int .i64 0]) ?_ 0 _ rfl; (with_reducible repeat (first | refine blk_drewN ?_ _ | refine blk_drew ?_ | refine blk_alloc ?_ _)); exact BK266.out⟩, ⟨by repeat (first | (with_reducible first | exact HB.out | apply below_alloc | apply pw_below_drewN | apply below_drew1 | refine below_set ?_ GE266.out) | exact HB.out)⟩⟩
        ·
         rw [if_neg c14] at H
         have c14b0 : (((rd_T43 l2 x9_1).f1) == (-1)) = false := beq_eq_false_iff_ne.mpr c14
         have c14b1 : (((rd_T43 l2 x9_1).f1) != (-1)) = true := bne_iff_ne.mpr c14
         have H' := Aside0.mk H
         clear H
         have hcz16_0 : w7.cell? ⟨gb266, 0, none⟩ = some (.int .i64 0) := (blk_cell BK266.out 0).trans rfl
         have hcz16_1 : w7.cell? ⟨gb266, 1, none⟩ = some (.int .i64 0) := (blk_cell BK266.out 1).trans rfl
         have hfz16_0 := blk_frozen BK266.out 0
         have hfz16_1 := blk_frozen BK266.out 1
         go_wp2
         repeat (go_quiet (fail); try go_wp2)
         go_meet
         case rel => exact ⟨_, ((((rd_T43 l2 x9_1).f1) != x8_1)), (by first | rfl | (simp; done) | (simp [*]; done)), H', ⟨by have := HK1.out; first | omega | exact Nat.le_refl _⟩, ⟨by (with_reducible repeat (first | refine blk_drewN ?_ _ | refine blk_drew ?_ | refine blk_alloc ?_ _)); refine blk_put (cs := #[.int .i64 ((rd_T43 l2 x9_1).f0), .int .i64 0]) ?_ 1 _ rfl; (with_reducible repeat (first | refine blk_drewN ?_ _ | refine blk_drew ?_ | refine blk_alloc ?_ _)); refine blk_put (cs := #[.int .i64 0, .int .i64 0]) ?_ 0 _ rfl; (with_reducible repeat (first | refine blk_drewN ?_ _ | refine blk_drew ?_ | refine blk_alloc ?_ _)); exact BK266.out⟩, ⟨by repeat (first | (with_reducible first | exact HB.out | apply below_alloc | apply pw_below_drewN | apply below_drew1 | refine below_set ?_ GE266.out) | exact HB.out)⟩⟩
       ·
        rw [if_neg c13] at H
        have c13b0 : (((rd_T43 l2 x9_1).f0) == x7_1) = false := beq_eq_false_iff_ne.mpr c13
        have c13b1 : (((rd_T43 l2 x9_1).f0) != x7_1) = true := bne_iff_ne.mpr c13
        have H' := Aside0.mk H
        clear H
        have hcz17_0 : w7.cell? ⟨gb266, 0, none⟩ = some (.int .i64 0) := (blk_cell BK266.out 0).trans rfl
        have hcz17_1 : w7.cell? ⟨gb266, 1, none⟩ = some (.int .i64 0) := (blk_cell BK266.out 1).trans rfl
        have hfz17_0 := blk_frozen BK266.out 0
        have hfz17_1 := blk_frozen BK266.out 1
        go_wp2
        repeat (go_quiet (fail); try go_wp2)
        go_meet
        case rel => exact ⟨_, (true), (by first | rfl | (simp; done) | (simp [*]; done)), H', ⟨by have := HK1.out; first | omega | exact Nat.le_refl _⟩, ⟨by (with_reducible repeat (first | refine blk_drewN ?_ _ | refine blk_drew ?_ | refine blk_alloc ?_ _)); refine blk_put (cs := #[.int .i64 ((rd_T43 l2 x9_1).f0), .int .i64 0]) ?_ 1 _ rfl; (with_reducible repeat (first | refine blk_drewN ?_ _ | refine blk_drew ?_ | refine blk_alloc ?_ _)); refine blk_put (cs := #[.int .i64 0, .int .i64 0]) ?_ 0 _ rfl; (with_reducible repeat (first | refine blk_drewN ?_ _ | refine blk_drew ?_ | refine blk_alloc ?_ _)); exact BK266.out⟩, ⟨by repeat (first | (with_reducible first | exact HB.out | apply below_alloc | apply pw_below_drewN | apply below_drew1 | refine below_set ?_ GE266.out) | exact HB.out)⟩⟩
     case rest =>
      clear HC6
      try clear c1
      try clear c2
      try clear p2
      try clear q2
      try clear hx2
      try clear c4
      try clear c4b0
      try clear c5
      try clear c5b0
      try clear c9
      try clear c9b0
      try clear c9b1
      try clear c10
      try clear c10b0
      try clear c10b1
      try clear c13
      try clear c13b0
      try clear c13b1
      try clear c14
      try clear c14b0
      try clear c14b1
      try clear c17
      try clear hcz11_0
      try clear hcz11_1
      try clear hcz12_0
      try clear hcz12_1
      try clear hcz15_0
      try clear hcz15_1
      try clear hcz16_0
      try clear hcz16_1
      try clear hcz17_0
      try clear hcz17_1
      try clear hcz8_0
      try clear hcz8_1
      try clear hfz11_0
      try clear hfz11_1
      try clear hfz12_0
      try clear hfz12_1
      try clear hfz15_0
      try clear hfz15_1
      try clear hfz16_0
      try clear hfz16_1
      try clear hfz17_0
      try clear hfz17_1
      try clear hfz8_0
      try clear hfz8_1
      try clear hx265_0
      try clear hx265_1
      try clear p2
      try clear p265
      try clear q265
      obtain ⟨kq, x50_5, rfl, HA, HJ5, BK266, HB⟩ := hcut
      cases kq with
      | zero => exact absurd HA.out (by simp [signalbenchref54_Check.j1])
      | succ kj5 =>
       have H := HA.out
       clear HA
       simp only [signalbenchref54_Check.j1] at H
       by_cases c18 : x50_5 = true
       ·
        subst c18
        have H1 : (some false) = some r := by rw [if_pos rfl] at H; exact H
        clear H
        have H := H1
        clear H1
        obtain rfl := Option.some.inj H
        go_wp2
        repeat (go_quiet (fail); try go_wp2)
        go_ret
        exact ⟨by first | rfl | (simp [errW_none, errW_some] <;> rfl) | (simp [*, errW_none, errW_some] <;> rfl), by repeat (first | (with_reducible first | exact HB.out | apply below_alloc | apply pw_below_drewN | apply below_drew1 | refine below_set ?_ GE266.out) | exact HB.out)⟩
       ·
        replace c18 := Bool.eq_false_iff.mpr c18
        subst c18
        have H1 : (if ((rd_T43 l2 x9_1).f0) ≥ (l0.length : Int) then (signalbenchref54_Check.j2 kj5 l0 l1 l2 x7_1 x8_1 x9_1 true ((rd_T43 l2 x9_1).f0) ((rd_T43 l2 x9_1).f1)) else (signalbenchref54_Check.j2 kj5 l0 l1 l2 x7_1 x8_1 x9_1 (decide (((rd_T43 l2 x9_1).f1) ≥ (l1.length : Int))) ((rd_T43 l2 x9_1).f0) ((rd_T43 l2 x9_1).f1))) = some r := by rw [if_neg (show ¬ (false = true) by decide)] at H; exact H
        clear H
        have H := H1
        clear H1
        have HC19 := Aside0.mk H
        clear H
        go_upto_region 8 with (fail)
        repeat (go_quiet (fail); go_upto_region 8 with (fail))
        go_cut [62] (fun v62 wc => ∃ (kq : Nat) (x62_18 : Bool), v62 = .bool x62_18 ∧ Aside0 (signalbenchref54_Check.j2 kq l0 l1 l2 x7_1 x8_1 x9_1 x62_18 ((rd_T43 l2 x9_1).f0) ((rd_T43 l2 x9_1).f1) = some r) ∧ Aside0 (kq ≤ kj5) ∧ Aside0 (wc.heap[gb266]? = some (.cells #[.int .i64 ((rd_T43 l2 x9_1).f0), .int .i64 ((rd_T43 l2 x9_1).f1)] 43 (0, 0))) ∧ Aside0 (Below w.heap.size w wc))
        case first =>
         have H := HC19.out
         clear HC19
         by_cases c20 : ((rd_T43 l2 x9_1).f0) ≥ (l0.length : Int)
         ·
          rw [if_pos c20] at H
          have c20b0 : decide ((l0.length : Int) ≤ ((rd_T43 l2 x9_1).f0)) = true := decide_eq_true c20
          clear c20
          (first | rw [c20b0] | (simp only [i64_w, i32_w]; rw [c20b0]) | skip)
          have H' := Aside0.mk H
          clear H
          have hcz21_0 : wc.cell? ⟨gb266, 0, none⟩ = some (.int .i64 ((rd_T43 l2 x9_1).f0)) := (blk_cell BK266.out 0).trans rfl
          have hcz21_1 : wc.cell? ⟨gb266, 1, none⟩ = some (.int .i64 ((rd_T43 l2 x9_1).f1)) := (blk_cell BK266.out 1).trans rfl
          have hfz21_0 := blk_frozen BK266.out 0
          have hfz21_1 := blk_frozen BK266.out 1
          go_wp2
          repeat (go_quiet (fail); try go_wp2)
          go_meet
          case rel => exact ⟨_, (true), (by first | rfl | (simp; done) | (simp [*]; done)), H', ⟨by have := HK1.out; have := HJ5.out; first | omega | exact Nat.le_refl _⟩, ⟨by (with_reducible repeat (first | refine blk_drewN ?_ _ | refine blk_drew ?_ | refine blk_alloc ?_ _)); exact BK266.out⟩, ⟨by repeat (first | (with_reducible first | exact HB.out | apply below_alloc | apply pw_below_drewN | apply below_drew1 | refine below_set ?_ GE266.out) | exact HB.out)⟩⟩
         ·
          rw [if_neg c20] at H
          have c20b0 : decide ((l0.length : Int) ≤ ((rd_T43 l2 x9_1).f0)) = false := decide_eq_false c20
          clear c20
          (first | rw [c20b0] | (simp only [i64_w, i32_w]; rw [c20b0]) | skip)
          have H' := Aside0.mk H
          clear H
          have hcz22_0 : wc.cell? ⟨gb266, 0, none⟩ = some (.int .i64 ((rd_T43 l2 x9_1).f0)) := (blk_cell BK266.out 0).trans rfl
          have hcz22_1 : wc.cell? ⟨gb266, 1, none⟩ = some (.int .i64 ((rd_T43 l2 x9_1).f1)) := (blk_cell BK266.out 1).trans rfl
          have hfz22_0 := blk_frozen BK266.out 0
          have hfz22_1 := blk_frozen BK266.out 1
          go_wp2
          repeat (go_quiet (fail); try go_wp2)
          go_meet
          case rel => exact ⟨_, (decide (((rd_T43 l2 x9_1).f1) ≥ (l1.length : Int))), (by first | rfl | (simp; done) | (simp [*]; done)), H', ⟨by have := HK1.out; have := HJ5.out; first | omega | exact Nat.le_refl _⟩, ⟨by (with_reducible repeat (first | refine blk_drewN ?_ _ | refine blk_drew ?_ | refine blk_alloc ?_ _)); exact BK266.out⟩, ⟨by repeat (first | (with_reducible first | exact HB.out | apply below_alloc | apply pw_below_drewN | apply below_drew1 | refine below_set ?_ GE266.out) | exact HB.out)⟩⟩
        case rest =>
         clear HC19
         try clear c1
         try clear c2
         try clear p2
         try clear q2
         try clear hx2
         try clear c4
         try clear c4b0
         try clear c5
         try clear c5b0
         try clear c9
         try clear c9b0
         try clear c9b1
         try clear c10
         try clear c10b0
         try clear c10b1
         try clear c13
         try clear c13b0
         try clear c13b1
         try clear c14
         try clear c14b0
         try clear c14b1
         try clear c17
         try clear c18
         try clear c20
         try clear c20b0
         try clear hcz11_0
         try clear hcz11_1
         try clear hcz12_0
         try clear hcz12_1
         try clear hcz15_0
         try clear hcz15_1
         try clear hcz16_0
         try clear hcz16_1
         try clear hcz17_0
         try clear hcz17_1
         try clear hcz21_0
         try clear hcz21_1
         try clear hcz22_0
         try clear hcz22_1
         try clear hcz8_0
         try clear hcz8_1
         try clear hfz11_0
         try clear hfz11_1
         try clear hfz12_0
         try clear hfz12_1
         try clear hfz15_0
         try clear hfz15_1
         try clear hfz16_0
         try clear hfz16_1
         try clear hfz17_0
         try clear hfz17_1
         try clear hfz21_0
         try clear hfz21_1
         try clear hfz22_0
         try clear hfz22_1
         try clear hfz8_0
         try clear hfz8_1
         try clear hx265_0
         try clear hx265_1
         try clear p2
         try clear p265
         try clear q2
         try clear q265
         obtain ⟨kq, x62_18, rfl, HA, HJ18, BK266, HB⟩ := hcut
         cases kq with
         | zero => exact absurd HA.out (by simp [signalbenchref54_Check.j2])
         | succ kj18 =>
          have H := HA.out
          clear HA
          simp only [signalbenchref54_Check.j2] at H
          by_cases c23 : x62_18 = true
          ·
           subst c23
           have H1 : (some false) = some r := by rw [if_pos rfl] at H; exact H
           clear H
           have H := H1
           clear H1
           obtain rfl := Option.some.inj H
           go_wp2
           repeat (go_quiet (fail); try go_wp2)
           go_ret
           exact ⟨by first | rfl | (simp [errW_none, errW_some] <;> rfl) | (simp [*, errW_none, errW_some] <;> rfl), by repeat (first | (with_reducible first | exact HB.out | apply below_alloc | apply pw_below_drewN | apply below_drew1 | refine below_set ?_ GE266.out) | exact HB.out)⟩
          ·
           replace c23 := Bool.eq_false_iff.mpr c23
           subst c23
           have H1 : (if ((rd_T43 l2 x9_1).f0) ≥ 0 then (if ((rd_T43 l2 x9_1).f1) ≥ 0 then (if 0 ≤ ((rd_T43 l2 x9_1).f0) then (if ((rd_T43 l2 x9_1).f0) < (l0.length : Int) then (if 0 ≤ ((rd_T43 l2 x9_1).f1) then (if ((rd_T43 l2 x9_1).f1) < (l1.length : Int) then (signalbenchref54_Check.j3 kj18 l0 l1 l2 x7_1 x8_1 x9_1 ((rdOf ByteArray.empty l0 ((rd_T43 l2 x9_1).f0)).toList != (rdOf ByteArray.empty l1 ((rd_T43 l2 x9_1).f1)).toList) ((rd_T43 l2 x9_1).f0) ((rd_T43 l2 x9_1).f1)) else (none)) else (none)) else (none)) else (none)) else (signalbenchref54_Check.j3 kj18 l0 l1 l2 x7_1 x8_1 x9_1 false ((rd_T43 l2 x9_1).f0) ((rd_T43 l2 x9_1).f1))) else (signalbenchref54_Check.j3 kj18 l0 l1 l2 x7_1 x8_1 x9_1 false ((rd_T43 l2 x9_1).f0) ((rd_T43 l2 x9_1).f1))) = some r := by rw [if_neg (show ¬ (false = true) by decide)] at H; exact H
           clear H
           have H := H1
           clear H1
           have HC24 := Aside0.mk H
           clear H
           go_upto_region 10 with (fail)
           repeat (go_quiet (fail); go_upto_region 10 with (fail))
           go_cut [83] (fun v83 wc => ∃ (kq : Nat) (x83_23 : Bool), v83 = .bool x83_23 ∧ Aside0 (signalbenchref54_Check.j3 kq l0 l1 l2 x7_1 x8_1 x9_1 x83_23 ((rd_T43 l2 x9_1).f0) ((rd_T43 l2 x9_1).f1) = some r) ∧ Aside0 (kq ≤ kj18) ∧ Aside0 (wc.heap[gb266]? = some (.cells #[.int .i64 ((rd_T43 l2 x9_1).f0), .int .i64 ((rd_T43 l2 x9_1).f1)] 43 (0, 0))) ∧ Aside0 (Below w.heap.size w wc))
           case first =>
            have H := HC24.out
            clear HC24
            by_cases c25 : ((rd_T43 l2 x9_1).f0) ≥ 0
            ·
             rw [if_pos c25] at H
             have c25b0 : decide (0 ≤ ((rd_T43 l2 x9_1).f0)) = true := decide_eq_true c25
             clear c25
             (first | rw [c25b0] | (simp only [i64_w, i32_w]; rw [c25b0]) | skip)
             by_cases c26 : ((rd_T43 l2 x9_1).f1) ≥ 0
             ·
              rw [if_pos c26] at H
              have c26b0 : decide (0 ≤ ((rd_T43 l2 x9_1).f1)) = true := decide_eq_true c26
              clear c26
              by_cases c27 : 0 ≤ ((rd_T43 l2 x9_1).f0)
              ·
               rw [if_pos c27] at H
               have c27b0 : decide (0 ≤ ((rd_T43 l2 x9_1).f0)) = true := decide_eq_true c27
               clear c27
               by_cases c28 : ((rd_T43 l2 x9_1).f0) < (l0.length : Int)
               ·
                rw [if_pos c28] at H
                have c28b0 : decide (((rd_T43 l2 x9_1).f0) < (l0.length : Int)) = true := decide_eq_true c28
                clear c28
                by_cases c29 : 0 ≤ ((rd_T43 l2 x9_1).f1)
                ·
                 rw [if_pos c29] at H
                 have c29b0 : decide (0 ≤ ((rd_T43 l2 x9_1).f1)) = true := decide_eq_true c29
                 clear c29
                 by_cases c30 : ((rd_T43 l2 x9_1).f1) < (l1.length : Int)
                 ·
                  rw [if_pos c30] at H
                  have c30b0 : decide (((rd_T43 l2 x9_1).f1) < (l1.length : Int)) = true := decide_eq_true c30
                  clear c30
                  have H' := Aside0.mk H
                  clear H
                  have hcz31_0 : wc.cell? ⟨gb266, 0, none⟩ = some (.int .i64 ((rd_T43 l2 x9_1).f0)) := (blk_cell BK266.out 0).trans rfl
                  have hcz31_1 : wc.cell? ⟨gb266, 1, none⟩ = some (.int .i64 ((rd_T43 l2 x9_1).f1)) := (blk_cell BK266.out 1).trans rfl
                  have hfz31_0 := blk_frozen BK266.out 0
                  have hfz31_1 := blk_frozen BK266.out 1
                  have p267 : 0 ≤ (((rd_T43 l2 x9_1).f0) : Int) := of_decide_eq_true (by first | (with_reducible assumption) | assumption)
                  have q267 : ((rd_T43 l2 x9_1).f0) < (l0.length : Int) := of_decide_eq_true (by first | (with_reducible assumption) | assumption)
                  obtain ⟨ad267, e267, hx267_0⟩ := Kd.at_string HR0.out ((rd_T43 l2 x9_1).f0) p267 q267
                  cases e267
                  replace hx267_0 := (HB.out.cell (World.block_lt_of_cell? w _ hx267_0)).trans hx267_0
                  replace p267 := eq_true p267
                  replace q267 := eq_true q267
                  have p268 : 0 ≤ (((rd_T43 l2 x9_1).f1) : Int) := of_decide_eq_true (by first | (with_reducible assumption) | assumption)
                  have q268 : ((rd_T43 l2 x9_1).f1) < (l1.length : Int) := of_decide_eq_true (by first | (with_reducible assumption) | assumption)
                  obtain ⟨ad268, e268, hx268_0⟩ := Kd.at_string HR1.out ((rd_T43 l2 x9_1).f1) p268 q268
                  cases e268
                  replace hx268_0 := (HB.out.cell (World.block_lt_of_cell? w _ hx268_0)).trans hx268_0
                  replace p268 := eq_true p268
                  replace q268 := eq_true q268
                  go_wp2
                  repeat (go_quiet (fail); try go_wp2)
                  go_meet
                  case rel => exact ⟨_, (((rdOf ByteArray.empty l0 ((rd_T43 l2 x9_1).f0)).toList != (rdOf ByteArray.empty l1 ((rd_T43 l2 x9_1).f1)).toList)), (by first | rfl | (simp; done) | (simp [*]; done)), H', ⟨by have := HK1.out; have := HJ5.out; have := HJ18.out; first | omega | exact Nat.le_refl _⟩, ⟨by (with_reducible repeat (first | refine blk_drewN ?_ _ | refine blk_drew ?_ | refine blk_alloc ?_ _)); exact BK266.out⟩, ⟨by repeat (first | (with_reducible first | exact HB.out | apply below_alloc | apply pw_below_drewN | apply below_drew1 | refine below_set ?_ GE266.out) | exact HB.out)⟩⟩
                 ·
                  rw [if_neg c30] at H
                  exact absurd H (by simp)
                ·
                 rw [if_neg c29] at H
                 exact absurd H (by simp)
               ·
                rw [if_neg c28] at H
                exact absurd H (by simp)
              ·
               rw [if_neg c27] at H
               exact absurd H (by simp)
             ·
              rw [if_neg c26] at H
              have c26b0 : decide (0 ≤ ((rd_T43 l2 x9_1).f1)) = false := decide_eq_false c26
              clear c26
              have H' := Aside0.mk H
              clear H
              have hcz32_0 : wc.cell? ⟨gb266, 0, none⟩ = some (.int .i64 ((rd_T43 l2 x9_1).f0)) := (blk_cell BK266.out 0).trans rfl
              have hcz32_1 : wc.cell? ⟨gb266, 1, none⟩ = some (.int .i64 ((rd_T43 l2 x9_1).f1)) := (blk_cell BK266.out 1).trans rfl
              have hfz32_0 := blk_frozen BK266.out 0
              have hfz32_1 := blk_frozen BK266.out 1
              go_wp2
              repeat (go_quiet (fail); try go_wp2)
              go_meet
              case rel => exact ⟨_, (false), (by first | rfl | (simp; done) | (simp [*]; done)), H', ⟨by have := HK1.out; have := HJ5.out; have := HJ18.out; first | omega | exact Nat.le_refl _⟩, ⟨by (with_reducible repeat (first | refine blk_drewN ?_ _ | refine blk_drew ?_ | refine blk_alloc ?_ _)); exact BK266.out⟩, ⟨by repeat (first | (with_reducible first | exact HB.out | apply below_alloc | apply pw_below_drewN | apply below_drew1 | refine below_set ?_ GE266.out) | exact HB.out)⟩⟩
            ·
             rw [if_neg c25] at H
             have c25b0 : decide (0 ≤ ((rd_T43 l2 x9_1).f0)) = false := decide_eq_false c25
             clear c25
             (first | rw [c25b0] | (simp only [i64_w, i32_w]; rw [c25b0]) | skip)
             have H' := Aside0.mk H
             clear H
             have hcz33_0 : wc.cell? ⟨gb266, 0, none⟩ = some (.int .i64 ((rd_T43 l2 x9_1).f0)) := (blk_cell BK266.out 0).trans rfl
             have hcz33_1 : wc.cell? ⟨gb266, 1, none⟩ = some (.int .i64 ((rd_T43 l2 x9_1).f1)) := (blk_cell BK266.out 1).trans rfl
             have hfz33_0 := blk_frozen BK266.out 0
             have hfz33_1 := blk_frozen BK266.out 1
             go_wp2
             repeat (go_quiet (fail); try go_wp2)
             go_meet
             case rel => exact ⟨_, (false), (by first | rfl | (simp; done) | (simp [*]; done)), H', ⟨by have := HK1.out; have := HJ5.out; have := HJ18.out; first | omega | exact Nat.le_refl _⟩, ⟨by (with_reducible repeat (first | refine blk_drewN ?_ _ | refine blk_drew ?_ | refine blk_alloc ?_ _)); exact BK266.out⟩, ⟨by repeat (first | (with_reducible first | exact HB.out | apply below_alloc | apply pw_below_drewN | apply below_drew1 | refine below_set ?_ GE266.out) | exact HB.out)⟩⟩
           case rest =>
            clear HC24
            try clear c1
            try clear c2
            try clear p2
            try clear q2
            try clear hx2
            try clear c3
            try clear c4
            try clear c4b0
            try clear c5
            try clear c5b0
            try clear c9
            try clear c9b0
            try clear c9b1
            try clear c10
            try clear c10b0
            try clear c10b1
            try clear c13
            try clear c13b0
            try clear c13b1
            try clear c14
            try clear c14b0
            try clear c14b1
            try clear c17
            try clear c18
            try clear c20
            try clear c20b0
            try clear c23
            try clear c25
            try clear c25b0
            try clear c26
            try clear c26b0
            try clear p26
            try clear q26
            try clear hx26
            try clear c27
            try clear c27b0
            try clear c28
            try clear c28b0
            try clear c29
            try clear c29b0
            try clear c30
            try clear c30b0
            try clear hcz11_0
            try clear hcz11_1
            try clear hcz12_0
            try clear hcz12_1
            try clear hcz15_0
            try clear hcz15_1
            try clear hcz16_0
            try clear hcz16_1
            try clear hcz17_0
            try clear hcz17_1
            try clear hcz21_0
            try clear hcz21_1
            try clear hcz22_0
            try clear hcz22_1
            try clear hcz31_0
            try clear hcz31_1
            try clear hcz32_0
            try clear hcz32_1
            try clear hcz33_0
            try clear hcz33_1
            try clear hcz8_0
            try clear hcz8_1
            try clear hfz11_0
            try clear hfz11_1
            try clear hfz12_0
            try clear hfz12_1
            try clear hfz15_0
            try clear hfz15_1
            try clear hfz16_0
            try clear hfz16_1
            try clear hfz17_0
            try clear hfz17_1
            try clear hfz21_0
            try clear hfz21_1
            try clear hfz22_0
            try clear hfz22_1
            try clear hfz31_0
            try clear hfz31_1
            try clear hfz32_0
            try clear hfz32_1
            try clear hfz33_0
            try clear hfz33_1
            try clear hfz8_0
            try clear hfz8_1
            try clear hx265_0
            try clear hx265_1
            try clear hx267_0
            try clear hx268_0
            try clear p2
            try clear p265
            try clear p267
            try clear p268
            try clear q2
            try clear q265
            try clear q267
            try clear q268
            obtain ⟨kq, x83_23, rfl, HA, HJ23, BK266, HB⟩ := hcut
            cases kq with
            | zero => exact absurd HA.out (by simp [signalbenchref54_Check.j3])
            | succ kj23 =>
             have H := HA.out
             clear HA
             simp only [signalbenchref54_Check.j3] at H
             by_cases c34 : x83_23 = true
             ·
              subst c34
              have H1 : (some false) = some r := by rw [if_pos rfl] at H; exact H
              clear H
              have H := H1
              clear H1
              obtain rfl := Option.some.inj H
              go_wp2
              repeat (go_quiet (fail); try go_wp2)
              go_ret
              exact ⟨by first | rfl | (simp [errW_none, errW_some] <;> rfl) | (simp [*, errW_none, errW_some] <;> rfl), by repeat (first | (with_reducible first | exact HB.out | apply below_alloc | apply pw_below_drewN | apply below_drew1 | refine below_set ?_ GE266.out) | exact HB.out)⟩
             ·
              replace c34 := Bool.eq_false_iff.mpr c34
              subst c34
              have H1 : (if ((rd_T43 l2 x9_1).f0) ≥ 0 then (if ((rd_T43 l2 x9_1).f1) ≥ 0 then (signalbenchref54_Check.l0 kj23 l0 l1 l2 (wrap64 (x7_1 + 1)) (wrap64 (x8_1 + 1)) (wrap64 (x9_1 + 1))) else (signalbenchref54_Check.l0 kj23 l0 l1 l2 (wrap64 (x7_1 + 1)) x8_1 (wrap64 (x9_1 + 1)))) else (if ((rd_T43 l2 x9_1).f1) ≥ 0 then (signalbenchref54_Check.l0 kj23 l0 l1 l2 x7_1 (wrap64 (x8_1 + 1)) (wrap64 (x9_1 + 1))) else (signalbenchref54_Check.l0 kj23 l0 l1 l2 x7_1 x8_1 (wrap64 (x9_1 + 1))))) = some r := by rw [if_neg (show ¬ (false = true) by decide)] at H; exact H
              clear H
              have H := H1
              clear H1
              by_cases c35 : ((rd_T43 l2 x9_1).f0) ≥ 0
              ·
               rw [if_pos c35] at H
               have c35b0 : decide (0 ≤ ((rd_T43 l2 x9_1).f0)) = true := decide_eq_true c35
               clear c35
               by_cases c36 : ((rd_T43 l2 x9_1).f1) ≥ 0
               ·
                rw [if_pos c36] at H
                have c36b0 : decide (0 ≤ ((rd_T43 l2 x9_1).f1)) = true := decide_eq_true c36
                clear c36
                have H' := Aside0.mk H
                clear H
                have hcz37_0 : wc.cell? ⟨gb266, 0, none⟩ = some (.int .i64 ((rd_T43 l2 x9_1).f0)) := (blk_cell BK266.out 0).trans rfl
                have hcz37_1 : wc.cell? ⟨gb266, 1, none⟩ = some (.int .i64 ((rd_T43 l2 x9_1).f1)) := (blk_cell BK266.out 1).trans rfl
                have hfz37_0 := blk_frozen BK266.out 0
                have hfz37_1 := blk_frozen BK266.out 1
                go_wp2
                repeat (go_quiet (fail); try go_wp2)
                go_roundg kj23
                case measure => have := HK1.out; have := HJ5.out; have := HJ18.out; have := HJ23.out; omega
                case rel => exact ⟨(wrap64 (x7_1 + 1)), (wrap64 (x8_1 + 1)), (wrap64 (x9_1 + 1)), (by first | rfl | (simp; done) | (simp [*]; done)), (by first | rfl | (simp; done) | (simp [*]; done)), (by first | rfl | (simp; done) | (simp [*]; done)), H', ⟨by have := HK1.out; have := HJ5.out; have := HJ18.out; have := HJ23.out; omega⟩, ⟨by repeat (first | (with_reducible first | exact HB.out | apply below_alloc | apply pw_below_drewN | apply below_drew1 | refine below_set ?_ GE266.out) | exact HB.out)⟩⟩
               ·
                rw [if_neg c36] at H
                have c36b0 : decide (0 ≤ ((rd_T43 l2 x9_1).f1)) = false := decide_eq_false c36
                clear c36
                have H' := Aside0.mk H
                clear H
                have hcz38_0 : wc.cell? ⟨gb266, 0, none⟩ = some (.int .i64 ((rd_T43 l2 x9_1).f0)) := (blk_cell BK266.out 0).trans rfl
                have hcz38_1 : wc.cell? ⟨gb266, 1, none⟩ = some (.int .i64 ((rd_T43 l2 x9_1).f1)) := (blk_cell BK266.out 1).trans rfl
                have hfz38_0 := blk_frozen BK266.out 0
                have hfz38_1 := blk_frozen BK266.out 1
                go_wp2
                repeat (go_quiet (fail); try go_wp2)
                go_roundg kj23
                case measure => have := HK1.out; have := HJ5.out; have := HJ18.out; have := HJ23.out; omega
                case rel => exact ⟨(wrap64 (x7_1 + 1)), (x8_1), (wrap64 (x9_1 + 1)), (by first | rfl | (simp; done) | (simp [*]; done)), (by first | rfl | (simp; done) | (simp [*]; done)), (by first | rfl | (simp; done) | (simp [*]; done)), H', ⟨by have := HK1.out; have := HJ5.out; have := HJ18.out; have := HJ23.out; omega⟩, ⟨by repeat (first | (with_reducible first | exact HB.out | apply below_alloc | apply pw_below_drewN | apply below_drew1 | refine below_set ?_ GE266.out) | exact HB.out)⟩⟩
              ·
               rw [if_neg c35] at H
               have c35b0 : decide (0 ≤ ((rd_T43 l2 x9_1).f0)) = false := decide_eq_false c35
               clear c35
               by_cases c39 : ((rd_T43 l2 x9_1).f1) ≥ 0
               ·
                rw [if_pos c39] at H
                have c39b0 : decide (0 ≤ ((rd_T43 l2 x9_1).f1)) = true := decide_eq_true c39
                clear c39
                have H' := Aside0.mk H
                clear H
                have hcz40_0 : wc.cell? ⟨gb266, 0, none⟩ = some (.int .i64 ((rd_T43 l2 x9_1).f0)) := (blk_cell BK266.out 0).trans rfl
                have hcz40_1 : wc.cell? ⟨gb266, 1, none⟩ = some (.int .i64 ((rd_T43 l2 x9_1).f1)) := (blk_cell BK266.out 1).trans rfl
                have hfz40_0 := blk_frozen BK266.out 0
                have hfz40_1 := blk_frozen BK266.out 1
                go_wp2
                repeat (go_quiet (fail); try go_wp2)
                go_roundg kj23
                case measure => have := HK1.out; have := HJ5.out; have := HJ18.out; have := HJ23.out; omega
                case rel => exact ⟨(x7_1), (wrap64 (x8_1 + 1)), (wrap64 (x9_1 + 1)), (by first | rfl | (simp; done) | (simp [*]; done)), (by first | rfl | (simp; done) | (simp [*]; done)), (by first | rfl | (simp; done) | (simp [*]; done)), H', ⟨by have := HK1.out; have := HJ5.out; have := HJ18.out; have := HJ23.out; omega⟩, ⟨by repeat (first | (with_reducible first | exact HB.out | apply below_alloc | apply pw_below_drewN | apply below_drew1 | refine below_set ?_ GE266.out) | exact HB.out)⟩⟩
               ·
                rw [if_neg c39] at H
                have c39b0 : decide (0 ≤ ((rd_T43 l2 x9_1).f1)) = false := decide_eq_false c39
                clear c39
                have H' := Aside0.mk H
                clear H
                have hcz41_0 : wc.cell? ⟨gb266, 0, none⟩ = some (.int .i64 ((rd_T43 l2 x9_1).f0)) := (blk_cell BK266.out 0).trans rfl
                have hcz41_1 : wc.cell? ⟨gb266, 1, none⟩ = some (.int .i64 ((rd_T43 l2 x9_1).f1)) := (blk_cell BK266.out 1).trans rfl
                have hfz41_0 := blk_frozen BK266.out 0
                have hfz41_1 := blk_frozen BK266.out 1
                go_wp2
                repeat (go_quiet (fail); try go_wp2)
                go_roundg kj23
                case measure => have := HK1.out; have := HJ5.out; have := HJ18.out; have := HJ23.out; omega
                case rel => exact ⟨(x7_1), (x8_1), (wrap64 (x9_1 + 1)), (by first | rfl | (simp; done) | (simp [*]; done)), (by first | rfl | (simp; done) | (simp [*]; done)), (by first | rfl | (simp; done) | (simp [*]; done)), H', ⟨by have := HK1.out; have := HJ5.out; have := HJ18.out; have := HJ23.out; omega⟩, ⟨by repeat (first | (with_reducible first | exact HB.out | apply below_alloc | apply pw_below_drewN | apply below_drew1 | refine below_set ?_ GE266.out) | exact HB.out)⟩⟩
    ·
     rw [if_neg c5] at H
     exact absurd H (by simp)
   ·
    rw [if_neg c4] at H
    have c4b0 : decide (x9_1 < (l2.length : Int)) = false := decide_eq_false c4
    clear c4
    by_cases c42 : x7_1 = (l0.length : Int)
    ·
     rw [if_pos c42] at H
     have c42b0 : (x7_1 == (l0.length : Int)) = true := beq_iff_eq.mpr c42
     have c42b1 : (x7_1 != (l0.length : Int)) = false := bne_eq_false_iff_eq.mpr c42
     clear c42
     obtain rfl := Option.some.inj H
     go_wp2
     repeat (go_quiet (fail); try go_wp2)
     go_ret
     exact ⟨by first | rfl | (simp [errW_none, errW_some] <;> rfl) | (simp [*, errW_none, errW_some] <;> rfl), by repeat (first | (with_reducible first | exact HB.out | apply below_alloc | apply pw_below_drewN | apply below_drew1) | exact HB.out)⟩
    ·
     rw [if_neg c42] at H
     have c42b0 : (x7_1 == (l0.length : Int)) = false := beq_eq_false_iff_ne.mpr c42
     have c42b1 : (x7_1 != (l0.length : Int)) = true := bne_iff_ne.mpr c42
     obtain rfl := Option.some.inj H
     go_wp2
     repeat (go_quiet (fail); try go_wp2)
     go_ret
     exact ⟨by first | rfl | (simp [errW_none, errW_some] <;> rfl) | (simp [*, errW_none, errW_some] <;> rfl), by repeat (first | (with_reducible first | exact HB.out | apply below_alloc | apply pw_below_drewN | apply below_drew1) | exact HB.out)⟩

end Go.Proofs.Ytbkncndagheijaa.H
