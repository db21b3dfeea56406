-- Printed by wip/hprint.py (this project's own driver of the kit's print) out of the translation; Lean checks it.
import Derived.Test.YtbkncndagheijaaH0
namespace Go.Proofs.Ytbkncndagheijaa.H
open Go.RowKit Go.Proofs.YtbkncndagheijaaW.PrintWords Go.Proofs.YtbkncndagheijaaW.PrintLast Go.Proofs.YtbkncndagheijaaW.PrintMore
attribute [local go_sem] max2_int min2_int max_two min_two max_three min_three max_four min_four   -- for this text's walks alone
set_option linter.unusedVariables false
set_option linter.unusedSimpArgs false

/-! ### align_Check: function 16 -/
mutual
def align_Check.l0 : Nat → List ByteArray → List ByteArray → Int → Int → List (S43) → Int → Int → Option (Bool)
 | 0, _, _, _, _, _, _, _ => none
 | k + 1, x0, x1, x7, x8, x11, x12, x13 => if x13 < x12 then (if 0 ≤ x13 then (if x13 < (x11.length : Int) then (if ((rd_T43 x11 x13).f0) = (-1) then (align_Check.j1 k x0 x1 x7 x8 x11 x12 x13 (((rd_T43 x11 x13).f1) == (-1)) ((rd_T43 x11 x13).f0) ((rd_T43 x11 x13).f1)) else (align_Check.j1 k x0 x1 x7 x8 x11 x12 x13 false ((rd_T43 x11 x13).f0) ((rd_T43 x11 x13).f1))) else (none)) else (none)) else (if x7 = (x0.length : Int) then (some (x8 == (x1.length : Int))) else (some false))
def align_Check.j1 : Nat → List ByteArray → List ByteArray → Int → Int → List (S43) → Int → Int → Bool → Int → Int → Option (Bool)
 | 0, _, _, _, _, _, _, _, _, _, _ => none
 | k + 1, x0, x1, x7, x8, x11, x12, x13, x24, x162000, x162001 => if x24 = true then (some false) else (if x162000 = (-1) then (align_Check.j2 k x0 x1 x7 x8 x11 x12 x13 x162000 x162001) else (if x162000 = x7 then (if x7 ≥ (x0.length : Int) then (some false) else (align_Check.j2 k x0 x1 (wrap64 (x7 + 1)) x8 x11 x12 x13 x162000 x162001)) else (some false)))
def align_Check.j2 : Nat → List ByteArray → List ByteArray → Int → Int → List (S43) → Int → Int → Int → Int → Option (Bool)
 | 0, _, _, _, _, _, _, _, _, _ => none
 | k + 1, x0, x1, x7, x8, x11, x12, x13, x162000, x162001 => if x162001 = (-1) then (if x162000 = (-1) then (align_Check.l0 k x0 x1 x7 x8 x11 x12 (wrap64 (x13 + 1))) else (align_Check.l0 k x0 x1 x7 x8 x11 x12 (wrap64 (x13 + 1)))) else (if x162001 = x8 then (align_Check.j3 k x0 x1 x7 x8 x11 x12 x13 (decide (x8 ≥ (x1.length : Int))) x162000 x162001) else (align_Check.j3 k x0 x1 x7 x8 x11 x12 x13 true x162000 x162001))
def align_Check.j3 : Nat → List ByteArray → List ByteArray → Int → Int → List (S43) → Int → Int → Bool → Int → Int → Option (Bool)
 | 0, _, _, _, _, _, _, _, _, _, _ => none
 | k + 1, x0, x1, x7, x8, x11, x12, x13, x52, x162000, x162001 => if x52 = true then (some false) else (if x162000 = (-1) then (align_Check.l0 k x0 x1 x7 (wrap64 (x8 + 1)) x11 x12 (wrap64 (x13 + 1))) else (if x162001 = (-1) then (align_Check.l0 k x0 x1 x7 (wrap64 (x8 + 1)) x11 x12 (wrap64 (x13 + 1))) else (if 0 ≤ x162000 then (if x162000 < (x0.length : Int) then (if 0 ≤ x162001 then (if x162001 < (x1.length : Int) then (if (rdOf ByteArray.empty x0 x162000).toList = (rdOf ByteArray.empty x1 x162001).toList then (align_Check.l0 k x0 x1 x7 (wrap64 (x8 + 1)) x11 x12 (wrap64 (x13 + 1))) else (some false)) else (none)) else (none)) else (none)) else (none))))
end
def align_Check.f (k : Nat) (l0 : List ByteArray) (l1 : List ByteArray) (l2 : List (S43)) : Option (Bool) := align_Check.l0 k l0 l1 0 0 l2 (l2.length : Int) 0
theorem align_Check.mono_l : ∀ k, (∀ y0 y1 y2 y3 y4 y5 y6, LeO (align_Check.l0 k y0 y1 y2 y3 y4 y5 y6) (align_Check.l0 (k + 1) y0 y1 y2 y3 y4 y5 y6)) ∧ (∀ y0 y1 y2 y3 y4 y5 y6 y7 y8 y9, LeO (align_Check.j1 k y0 y1 y2 y3 y4 y5 y6 y7 y8 y9) (align_Check.j1 (k + 1) y0 y1 y2 y3 y4 y5 y6 y7 y8 y9)) ∧ (∀ y0 y1 y2 y3 y4 y5 y6 y7 y8, LeO (align_Check.j2 k y0 y1 y2 y3 y4 y5 y6 y7 y8) (align_Check.j2 (k + 1) y0 y1 y2 y3 y4 y5 y6 y7 y8)) ∧ (∀ y0 y1 y2 y3 y4 y5 y6 y7 y8 y9, LeO (align_Check.j3 k y0 y1 y2 y3 y4 y5 y6 y7 y8 y9) (align_Check.j3 (k + 1) y0 y1 y2 y3 y4 y5 y6 y7 y8 y9))
 | 0 => ⟨fun _ _ _ _ _ _ _ r h => by simp [align_Check.l0] at h, fun _ _ _ _ _ _ _ _ _ _ r h => by simp [align_Check.j1] at h, fun _ _ _ _ _ _ _ _ _ r h => by simp [align_Check.j2] at h, fun _ _ _ _ _ _ _ _ _ _ r h => by simp [align_Check.j3] at h⟩
 | k + 1 => by
  obtain ⟨ih0, ih1, ih2, ih3⟩ := align_Check.mono_l k
  refine ⟨?_, ?_, ?_, ?_⟩
  ·
   intro y0 y1 y2 y3 y4 y5 y6
   unfold align_Check.l0
   repeat' first
   | (with_reducible exact ih0 _ _ _ _ _ _ _)
   | (with_reducible exact ih1 _ _ _ _ _ _ _ _ _ _)
   | (with_reducible exact ih2 _ _ _ _ _ _ _ _ _)
   | (with_reducible exact ih3 _ _ _ _ _ _ _ _ _ _)
   | (with_reducible exact LeO.refl _)
   | (with_reducible exact LeO.none _)
   | (with_reducible refine LeO.ite ?_ ?_)
   | (with_reducible refine LeO.bind ?_ (fun _ => ?_))
   | exact ih0 _ _ _ _ _ _ _
   | exact ih1 _ _ _ _ _ _ _ _ _ _
   | exact ih2 _ _ _ _ _ _ _ _ _
   | exact ih3 _ _ _ _ _ _ _ _ _ _
   | exact LeO.none _
   | refine LeO.ite ?_ ?_
   | refine LeO.bind ?_ (fun _ => ?_)
  ·
   intro y0 y1 y2 y3 y4 y5 y6 y7 y8 y9
   unfold align_Check.j1
   repeat' first
   | (with_reducible exact ih0 _ _ _ _ _ _ _)
   | (with_reducible exact ih1 _ _ _ _ _ _ _ _ _ _)
   | (with_reducible exact ih2 _ _ _ _ _ _ _ _ _)
   | (with_reducible exact ih3 _ _ _ _ _ _ _ _ _ _)
   | (with_reducible exact LeO.refl _)
   | (with_reducible exact LeO.none _)
   | (with_reducible refine LeO.ite ?_ ?_)
   | (with_reducible refine LeO.bind ?_ (fun _ => ?_))
   | exact ih0 _ _ _ _ _ _ _
   | exact ih1 _ _ _ _ _ _ _ _ _ _
   | exact ih2 _ _ _ _ _ _ _ _ _
   | exact ih3 _ _ _ _ _ _ _ _ _ _
   | exact LeO.none _
   | refine LeO.ite ?_ ?_
   | refine LeO.bind ?_ (fun _ => ?_)
  ·
   intro y0 y1 y2 y3 y4 y5 y6 y7 y8
   unfold align_Check.j2
   repeat' first
   | (with_reducible exact ih0 _ _ _ _ _ _ _)
   | (with_reducible exact ih1 _ _ _ _ _ _ _ _ _ _)
   | (with_reducible exact ih2 _ _ _ _ _ _ _ _ _)
   | (with_reducible exact ih3 _ _ _ _ _ _ _ _ _ _)
   | (with_reducible exact LeO.refl _)
   | (with_reducible exact LeO.none _)
   | (with_reducible refine LeO.ite ?_ ?_)
   | (with_reducible refine LeO.bind ?_ (fun _ => ?_))
   | exact ih0 _ _ _ _ _ _ _
   | exact ih1 _ _ _ _ _ _ _ _ _ _
   | exact ih2 _ _ _ _ _ _ _ _ _
   | exact ih3 _ _ _ _ _ _ _ _ _ _
   | exact LeO.none _
   | refine LeO.ite ?_ ?_
   | refine LeO.bind ?_ (fun _ => ?_)
  ·
   intro y0 y1 y2 y3 y4 y5 y6 y7 y8 y9
   unfold align_Check.j3
   repeat' first
   | (with_reducible exact ih0 _ _ _ _ _ _ _)
   | (with_reducible exact ih1 _ _ _ _ _ _ _ _ _ _)
   | (with_reducible exact ih2 _ _ _ _ _ _ _ _ _)
   | (with_reducible exact ih3 _ _ _ _ _ _ _ _ _ _)
   | (with_reducible exact LeO.refl _)
   | (with_reducible exact LeO.none _)
   | (with_reducible refine LeO.ite ?_ ?_)
   | (with_reducible refine LeO.bind ?_ (fun _ => ?_))
   | exact ih0 _ _ _ _ _ _ _
   | exact ih1 _ _ _ _ _ _ _ _ _ _
   | exact ih2 _ _ _ _ _ _ _ _ _
   | exact ih3 _ _ _ _ _ _ _ _ _ _
   | exact LeO.none _
   | refine LeO.ite ?_ ?_
   | refine LeO.bind ?_ (fun _ => ?_)
theorem align_Check.mono : ∀ a0 a1 a2 k, LeO (align_Check.f k a0 a1 a2) (align_Check.f (k + 1) a0 a1 a2) := by
 intro a0 a1 a2 k
 obtain ⟨ih0, ih1, ih2, ih3⟩ := align_Check.mono_l k
 unfold align_Check.f
 repeat' first
   | (with_reducible exact ih0 _ _ _ _ _ _ _)
   | (with_reducible exact ih1 _ _ _ _ _ _ _ _ _ _)
   | (with_reducible exact ih2 _ _ _ _ _ _ _ _ _)
   | (with_reducible exact ih3 _ _ _ _ _ _ _ _ _ _)
   | (with_reducible exact LeO.refl _)
   | (with_reducible exact LeO.none _)
   | (with_reducible refine LeO.ite ?_ ?_)
   | (with_reducible refine LeO.bind ?_ (fun _ => ?_))
   | exact ih0 _ _ _ _ _ _ _
   | exact ih1 _ _ _ _ _ _ _ _ _ _
   | exact ih2 _ _ _ _ _ _ _ _ _
   | exact ih3 _ _ _ _ _ _ _ _ _ _
   | exact LeO.none _
   | refine LeO.ite ?_ ?_
   | refine LeO.bind ?_ (fun _ => ?_)
set_option maxHeartbeats 8000000 in
set_option maxRecDepth 100000 in
theorem align_Check.calls (k : Nat) (A0 : Option Addr) (c0 : Nat) (l0 : List ByteArray) (A1 : Option Addr) (c1 : Nat) (l1 : List ByteArray) (A2 : Option Addr) (c2 : Nat) (l2 : List (S43)) (r : Bool) (w : World) (hr0 : Kd.C Kd.string w A0 l0.length l0) (hc0 : l0.length ≤ c0) (hr1 : Kd.C Kd.string w A1 l1.length l1) (hc1 : l1.length ≤ c1) (hr2 : Kd.C k43 w A2 l2.length l2) (hc2 : l2.length ≤ c2) (h : align_Check.f k l0 l1 l2 = some r) :
  Calls Try.prog 16 #[.slice A0 l0.length c0, .slice A1 l1.length c1, .slice A2 l2.length c2] w fun e w' => e = .returned (.bool r) ∧ Below w.heap.size w w' := by
 have hu43 := Try.underlying43
 have HR0 := Aside0.mk hr0
 have HC0 := Aside0.mk hc0
 clear hr0 hc0
 have HR1 := Aside0.mk hr1
 have HC1 := Aside0.mk hc1
 clear hr1 hc1
 have HR2 := Aside0.mk hr2
 have HC2 := Aside0.mk hc2
 clear hr2 hc2
 have HB := Aside0.mk (Below.refl w.heap.size w)
 have H : (align_Check.l0 k l0 l1 0 0 l2 (l2.length : Int) 0) = some r := h
 clear h
 have H' := Aside0.mk H
 clear H
 go_enter Try.func16, Try.ntmps16
 go_wp2
 repeat (go_quiet (fail); try go_wp2)
 go_loopg [7, 8, 13] k (fun kq v7 v8 v13 w' => ∃ (x7_1 : Int) (x8_1 : Int) (x13_1 : Int), v7 = .int .i64 x7_1 ∧ v8 = .int .i64 x8_1 ∧ v13 = .int .i64 x13_1 ∧ Aside0 (align_Check.l0 kq l0 l1 x7_1 x8_1 l2 (l2.length : Int) x13_1 = some r) ∧ Aside0 (kq ≤ k) ∧ Aside0 (Below w.heap.size w w'))
 case atStart => exact ⟨(0), (0), (0), (by first | rfl | (simp; done) | (simp [*]; done)), (by first | rfl | (simp; done) | (simp [*]; done)), (by first | rfl | (simp; done) | (simp [*]; done)), H', ⟨Nat.le_refl _⟩, ⟨by repeat (first | (with_reducible first | exact HB.out | apply below_alloc | apply pw_below_drewN | apply below_drew1) | exact HB.out)⟩⟩
 case round =>
  clear H'
  try clear c1
  try clear c2
  try clear p2
  obtain ⟨x7_1, x8_1, x13_1, rfl, rfl, rfl, HA, HK1, HB⟩ := hrel
  cases gk with
  | zero => exact absurd HA.out (by simp [align_Check.l0])
  | succ k1 =>
   have H := HA.out
   clear HA
   simp only [align_Check.l0] at H
   by_cases c4 : x13_1 < (l2.length : Int)
   ·
    rw [if_pos c4] at H
    have c4b0 : decide (x13_1 < (l2.length : Int)) = true := decide_eq_true c4
    clear c4
    by_cases c5 : 0 ≤ x13_1
    ·
     rw [if_pos c5] at H
     have c5b0 : decide (0 ≤ x13_1) = true := decide_eq_true c5
     clear c5
     by_cases c6 : x13_1 < (l2.length : Int)
     ·
      rw [if_pos c6] at H
      have c6b0 : decide (x13_1 < (l2.length : Int)) = true := decide_eq_true c6
      clear c6
      have HC7 := Aside0.mk H
      clear H
      have p160 : 0 ≤ (x13_1 : Int) := of_decide_eq_true (by first | (with_reducible assumption) | assumption)
      have q160 : x13_1 < (l2.length : Int) := of_decide_eq_true (by first | (with_reducible assumption) | assumption)
      obtain ⟨ad160, e160, hx160_0, hx160_1⟩ := at_T43 HR2.out x13_1 p160 q160
      cases e160
      replace hx160_0 := (HB.out.cell (World.block_lt_of_cell? w _ hx160_0)).trans hx160_0
      replace hx160_1 := (HB.out.cell (World.block_lt_of_cell? w _ hx160_1)).trans hx160_1
      replace p160 := eq_true p160
      replace q160 := eq_true q160
      go_upto_region 5 with (first | ((with_reducible refine gate_dst (N := 10) rfl ?_); refine box_event ?hg (N := 10) ?hd (cs := #[.int .i64 0, .int .i64 0]) (t := 43) ?hr ?_; (case hd => rfl); (case hg => rfl); (case hr => first | (go_simp; done) | (go_simp; rfl)); intro gb161 hg w8 hbox hb; have n0_ := Aside0.mk (below_step (by repeat (first | (with_reducible first | exact HB.out | apply below_alloc | apply pw_below_drewN | apply below_drew1) | exact HB.out)) hb); have n1_ := Aside0.mk (hbox); have n2_ := Aside0.mk ((by rw [hg]; exact (below_size (by repeat (first | (with_reducible first | exact HB.out | apply below_alloc | apply pw_below_drewN | apply below_drew1) | exact HB.out))) : w.heap.size ≤ gb161)); have n3_ := Aside0.mk ((by rw [hg]; exact (below_size (by repeat (first | (with_reducible first | exact HB.out | apply below_alloc | apply pw_below_drewN | apply below_drew1) | exact HB.out))) : w.heap.size ≤ gb161)); clear HB; have HB := n0_; have BK161 := n1_; have GW161 := n2_; have GE161 := n3_; clear n0_ n1_ n2_ n3_; clear hb hbox hg; have hcz9_0 : w8.cell? ⟨gb161, 0, none⟩ = some (.int .i64 0) := (blk_cell BK161.out 0).trans rfl; have hcz9_1 : w8.cell? ⟨gb161, 1, none⟩ = some (.int .i64 0) := (blk_cell BK161.out 1).trans rfl; have hfz9_0 := blk_frozen BK161.out 0; have hfz9_1 := blk_frozen BK161.out 1))
      repeat (go_quiet (first | ((with_reducible refine gate_dst (N := 10) rfl ?_); refine box_event ?hg (N := 10) ?hd (cs := #[.int .i64 0, .int .i64 0]) (t := 43) ?hr ?_; (case hd => rfl); (case hg => rfl); (case hr => first | (go_simp; done) | (go_simp; rfl)); intro gb161 hg w8 hbox hb; have n0_ := Aside0.mk (below_step (by repeat (first | (with_reducible first | exact HB.out | apply below_alloc | apply pw_below_drewN | apply below_drew1) | exact HB.out)) hb); have n1_ := Aside0.mk (hbox); have n2_ := Aside0.mk ((by rw [hg]; exact (below_size (by repeat (first | (with_reducible first | exact HB.out | apply below_alloc | apply pw_below_drewN | apply below_drew1) | exact HB.out))) : w.heap.size ≤ gb161)); have n3_ := Aside0.mk ((by rw [hg]; exact (below_size (by repeat (first | (with_reducible first | exact HB.out | apply below_alloc | apply pw_below_drewN | apply below_drew1) | exact HB.out))) : w.heap.size ≤ gb161)); clear HB; have HB := n0_; have BK161 := n1_; have GW161 := n2_; have GE161 := n3_; clear n0_ n1_ n2_ n3_; clear hb hbox hg; have hcz9_0 : w8.cell? ⟨gb161, 0, none⟩ = some (.int .i64 0) := (blk_cell BK161.out 0).trans rfl; have hcz9_1 : w8.cell? ⟨gb161, 1, none⟩ = some (.int .i64 0) := (blk_cell BK161.out 1).trans rfl; have hfz9_0 := blk_frozen BK161.out 0; have hfz9_1 := blk_frozen BK161.out 1)); go_upto_region 5 with (first | ((with_reducible refine gate_dst (N := 10) rfl ?_); refine box_event ?hg (N := 10) ?hd (cs := #[.int .i64 0, .int .i64 0]) (t := 43) ?hr ?_; (case hd => rfl); (case hg => rfl); (case hr => first | (go_simp; done) | (go_simp; rfl)); intro gb161 hg w8 hbox hb; have n0_ := Aside0.mk (below_step (by repeat (first | (with_reducible first | exact HB.out | apply below_alloc | apply pw_below_drewN | apply below_drew1) | exact HB.out)) hb); have n1_ := Aside0.mk (hbox); have n2_ := Aside0.mk ((by rw [hg]; exact (below_size (by repeat (first | (with_reducible first | exact HB.out | apply below_alloc | apply pw_below_drewN | apply below_drew1) | exact HB.out))) : w.heap.size ≤ gb161)); have n3_ := Aside0.mk ((by rw [hg]; exact (below_size (by repeat (first | (with_reducible first | exact HB.out | apply below_alloc | apply pw_below_drewN | apply below_drew1) | exact HB.out))) : w.heap.size ≤ gb161)); clear HB; have HB := n0_; have BK161 := n1_; have GW161 := n2_; have GE161 := n3_; clear n0_ n1_ n2_ n3_; clear hb hbox hg; have hcz9_0 : w8.cell? ⟨gb161, 0, none⟩ = some (.int .i64 0) := (blk_cell BK161.out 0).trans rfl; have hcz9_1 : w8.cell? ⟨gb161, 1, none⟩ = some (.int .i64 0) := (blk_cell BK161.out 1).trans rfl; have hfz9_0 := blk_frozen BK161.out 0; have hfz9_1 := blk_frozen BK161.out 1)))
      (try simp only [Act.put, List.setIfInBounds_toArray, List.set_cons_zero, List.set_cons_succ])
      go_cut [24] (fun v24 wc => ∃ (kq : Nat) (x24_6 : Bool), v24 = .bool x24_6 ∧ Aside0 (align_Check.j1 kq l0 l1 x7_1 x8_1 l2 (l2.length : Int) x13_1 x24_6 ((rd_T43 l2 x13_1).f0) ((rd_T43 l2 x13_1).f1) = some r) ∧ Aside0 (kq ≤ k1) ∧ Aside0 (wc.heap[gb161]? = some (.cells #[.int .i64 ((rd_T43 l2 x13_1).f0), .int .i64 ((rd_T43 l2 x13_1).f1)] 43 (0, 0))) ∧ Aside0 (Below w.heap.size w wc))
      case first =>
       have H := HC7.out
       clear HC7
       by_cases c10 : ((rd_T43 l2 x13_1).f0) = (-1)
       ·
        rw [if_pos c10] at H
        have c10b0 : (((rd_T43 l2 x13_1).f0) == (-1)) = true := beq_iff_eq.mpr c10
        have c10b1 : (((rd_T43 l2 x13_1).f0) != (-1)) = false := bne_eq_false_iff_eq.mpr c10
        clear c10
        (first | rw [c10b0] | (simp only [i64_w, i32_w]; rw [c10b0]) | skip)
        have H' := Aside0.mk H
        clear H
        have hcz11_0 : w8.cell? ⟨gb161, 0, none⟩ = some (.int .i64 0) := (blk_cell BK161.out 0).trans rfl
        have hcz11_1 : w8.cell? ⟨gb161, 1, none⟩ = some (.int .i64 0) := (blk_cell BK161.out 1).trans rfl
        have hfz11_0 := blk_frozen BK161.out 0
        have hfz11_1 := blk_frozen BK161.out 1
        go_wp2
        repeat (go_quiet (fail); try go_wp2)
        go_meet
        case rel => exact ⟨_, ((((rd_T43 l2 x13_1).f1) == (-1))), (by first | rfl | (simp; done) | (simp [*]; done)), H', ⟨by have := HK1.out; first | omega | exact Nat.le_refl _⟩, ⟨by (with_reducible repeat (first | refine blk_drewN ?_ _ | refine blk_drew ?_ | refine blk_alloc ?_ _)); refine blk_put (cs := #[.int .i64 ((rd_T43 l2 x13_1).f0), .int .i64 0]) ?_ 1 _ rfl; (with_reducible repeat (first | refine blk_drewN ?_ _ | refine blk_drew ?_ | refine blk_alloc ?_ _)); refine blk_put (cs := #[.int .i64 0, .int .i64 0]) ?_ 0 _ rfl; (with_reducible repeat (first | refine blk_drewN ?_ _ | refine blk_drew ?_ | refine blk_alloc ?_ _)); exact BK161.out⟩, ⟨by repeat (first | (with_reducible first | exact HB.out | apply below_alloc | apply pw_below_drewN | apply below_drew1 | refine below_set ?_ GE161.out) | exact HB.out)⟩⟩
       ·
        rw [if_neg c10] at H
        have c10b0 : (((rd_T43 l2 x13_1).f0) == (-1)) = false := beq_eq_false_iff_ne.mpr c10
        have c10b1 : (((rd_T43 l2 x13_1).f0) != (-1)) = true := bne_iff_ne.mpr c10
        (first | rw [c10b0] | (simp only [i64_w, i32_w]; rw [c10b0]) | skip)
        have H' := Aside0.mk H
        clear H
        have hcz12_0 : w8.cell? ⟨gb161, 0, none⟩ = some (.int .i64 0) := (blk_cell BK161.out 0).trans rfl
        have hcz12_1 : w8.cell? ⟨gb161, 1, none⟩ = some (.int .i64 0) := (blk_cell BK161.out 1).trans rfl
        have hfz12_0 := blk_frozen BK161.out 0
        have hfz12_1 := blk_frozen BK161.out 1
        go_wp2
        repeat (go_quiet (fail); try go_wp2)
        go_meet
        case rel => exact ⟨_, (false), (by first | rfl | (simp; done) | (simp [*]; done)), H', ⟨by have := HK1.out; first | omega | exact Nat.le_refl _⟩, ⟨by (with_reducible repeat (first | refine blk_drewN ?_ _ | refine blk_drew ?_ | refine blk_alloc ?_ _)); refine blk_put (cs := #[.int .i64 ((rd_T43 l2 x13_1).f0), .int .i64 0]) ?_ 1 _ rfl; (with_reducible repeat (first | refine blk_drewN ?_ _ | refine blk_drew ?_ | refine blk_alloc ?_ _)); refine blk_put (cs := #[.int .i64 0, .int .i64 0]) ?_ 0 _ rfl; (with_reducible repeat (first | refine blk_drewN ?_ _ | refine blk_drew ?_ | refine blk_alloc ?_ _)); exact BK161.out⟩, ⟨by repeat (first | (with_reducible first | exact HB.out | apply below_alloc | apply pw_below_drewN | apply below_drew1 | refine below_set ?_ GE161.out) | exact HB.out)⟩⟩
      case rest =>
       clear HC7
       try clear c1
       try clear p1
       try clear q1
       try clear hx1
       try clear c2
       try clear p2
       try clear c4
       try clear c4b0
       try clear c5
       try clear c5b0
       try clear c6
       try clear c6b0
       try clear c10
       try clear c10b0
       try clear c10b1
       try clear hcz11_0
       try clear hcz11_1
       try clear hcz12_0
       try clear hcz12_1
       try clear hcz9_0
       try clear hcz9_1
       try clear hfz11_0
       try clear hfz11_1
       try clear hfz12_0
       try clear hfz12_1
       try clear hfz9_0
       try clear hfz9_1
       try clear hx160_0
       try clear hx160_1
       try clear p160
       try clear p2
       try clear q160
       obtain ⟨kq, x24_6, rfl, HA, HJ6, BK161, HB⟩ := hcut
       cases kq with
       | zero => exact absurd HA.out (by simp [align_Check.j1])
       | succ kj6 =>
        have H := HA.out
        clear HA
        simp only [align_Check.j1] at H
        by_cases c13 : x24_6 = true
        ·
         subst c13
         have H1 : (some false) = some r := by rw [if_pos rfl] at H; exact H
         clear H
         have H := H1
         clear H1
         obtain rfl := Option.some.inj H
         go_wp2
         repeat (go_quiet (fail); try go_wp2)
         go_ret
         exact ⟨by first | rfl | (simp [errW_none, errW_some] <;> rfl) | (simp [*, errW_none, errW_some] <;> rfl), by repeat (first | (with_reducible first | exact HB.out | apply below_alloc | apply pw_below_drewN | apply below_drew1 | refine below_set ?_ GE161.out) | exact HB.out)⟩
        ·
         replace c13 := Bool.eq_false_iff.mpr c13
         subst c13
         have H1 : (if ((rd_T43 l2 x13_1).f0) = (-1) then (align_Check.j2 kj6 l0 l1 x7_1 x8_1 l2 (l2.length : Int) x13_1 ((rd_T43 l2 x13_1).f0) ((rd_T43 l2 x13_1).f1)) else (if ((rd_T43 l2 x13_1).f0) = x7_1 then (if x7_1 ≥ (l0.length : Int) then (some false) else (align_Check.j2 kj6 l0 l1 (wrap64 (x7_1 + 1)) x8_1 l2 (l2.length : Int) x13_1 ((rd_T43 l2 x13_1).f0) ((rd_T43 l2 x13_1).f1))) else (some false))) = some r := by rw [if_neg (show ¬ (false = true) by decide)] at H; exact H
         clear H
         have H := H1
         clear H1
         have HC14 := Aside0.mk H
         clear H
         have hcz15_0 : wc.cell? ⟨gb161, 0, none⟩ = some (.int .i64 ((rd_T43 l2 x13_1).f0)) := (blk_cell BK161.out 0).trans rfl
         have hcz15_1 : wc.cell? ⟨gb161, 1, none⟩ = some (.int .i64 ((rd_T43 l2 x13_1).f1)) := (blk_cell BK161.out 1).trans rfl
         have hfz15_0 := blk_frozen BK161.out 0
         have hfz15_1 := blk_frozen BK161.out 1
         go_upto_if 27 with (fail)
         repeat (go_quiet (fail); go_upto_if 27 with (fail))
         go_cut [7] (fun v7 wc => ∃ (kq : Nat) (x7_13 : Int), v7 = .int .i64 x7_13 ∧ Aside0 (align_Check.j2 kq l0 l1 x7_13 x8_1 l2 (l2.length : Int) x13_1 ((rd_T43 l2 x13_1).f0) ((rd_T43 l2 x13_1).f1) = some r) ∧ Aside0 (kq ≤ kj6) ∧ Aside0 (wc.heap[gb161]? = some (.cells #[.int .i64 ((rd_T43 l2 x13_1).f0), .int .i64 ((rd_T43 l2 x13_1).f1)] 43 (0, 0))) ∧ Aside0 (Below w.heap.size w wc))
         case first =>
          have H := HC14.out
          clear HC14
          by_cases c16 : ((rd_T43 l2 x13_1).f0) = (-1)
          ·
           rw [if_pos c16] at H
           have c16b0 : (((rd_T43 l2 x13_1).f0) == (-1)) = true := beq_iff_eq.mpr c16
           have c16b1 : (((rd_T43 l2 x13_1).f0) != (-1)) = false := bne_eq_false_iff_eq.mpr c16
           clear c16
           (first | rw [c16b0] | (simp only [i64_w, i32_w]; rw [c16b0]) | skip)
           have H' := Aside0.mk H
           clear H
           go_wp2
           repeat (go_quiet (fail); try go_wp2)
           go_meet
           case rel => exact ⟨_, (x7_1), (by first | rfl | (simp; done) | (simp [*]; done)), H', ⟨by have := HK1.out; have := HJ6.out; first | omega | exact Nat.le_refl _⟩, ⟨by (with_reducible repeat (first | refine blk_drewN ?_ _ | refine blk_drew ?_ | refine blk_alloc ?_ _)); exact BK161.out⟩, ⟨by repeat (first | (with_reducible first | exact HB.out | apply below_alloc | apply pw_below_drewN | apply below_drew1 | refine below_set ?_ GE161.out) | exact HB.out)⟩⟩
          ·
           rw [if_neg c16] at H
           have c16b0 : (((rd_T43 l2 x13_1).f0) == (-1)) = false := beq_eq_false_iff_ne.mpr c16
           have c16b1 : (((rd_T43 l2 x13_1).f0) != (-1)) = true := bne_iff_ne.mpr c16
           (first | rw [c16b0] | (simp only [i64_w, i32_w]; rw [c16b0]) | skip)
           by_cases c17 : ((rd_T43 l2 x13_1).f0) = x7_1
           ·
            rw [if_pos c17] at H
            have c17b0 : (((rd_T43 l2 x13_1).f0) == x7_1) = true := beq_iff_eq.mpr c17
            have c17b1 : (((rd_T43 l2 x13_1).f0) != x7_1) = false := bne_eq_false_iff_eq.mpr c17
            clear c17
            by_cases c18 : x7_1 ≥ (l0.length : Int)
            ·
             rw [if_pos c18] at H
             have c18b0 : decide ((l0.length : Int) ≤ x7_1) = true := decide_eq_true c18
             clear c18
             obtain rfl := Option.some.inj H
             have hcz19_0 : wc.cell? ⟨gb161, 0, none⟩ = some (.int .i64 ((rd_T43 l2 x13_1).f0)) := (blk_cell BK161.out 0).trans rfl
             have hcz19_1 : wc.cell? ⟨gb161, 1, none⟩ = some (.int .i64 ((rd_T43 l2 x13_1).f1)) := (blk_cell BK161.out 1).trans rfl
             have hfz19_0 := blk_frozen BK161.out 0
             have hfz19_1 := blk_frozen BK161.out 1
             go_wp2
             repeat (go_quiet (fail); try go_wp2)
             go_ret
             exact ⟨by first | rfl | (simp [errW_none, errW_some] <;> rfl) | (simp [*, errW_none, errW_some] <;> rfl), by repeat (first | (with_reducible first | exact HB.out | apply below_alloc | apply pw_below_drewN | apply below_drew1 | refine below_set ?_ GE161.out) | exact HB.out)⟩
            ·
             rw [if_neg c18] at H
             have c18b0 : decide ((l0.length : Int) ≤ x7_1) = false := decide_eq_false c18
             clear c18
             have H' := Aside0.mk H
             clear H
             have hcz20_0 : wc.cell? ⟨gb161, 0, none⟩ = some (.int .i64 ((rd_T43 l2 x13_1).f0)) := (blk_cell BK161.out 0).trans rfl
             have hcz20_1 : wc.cell? ⟨gb161, 1, none⟩ = some (.int .i64 ((rd_T43 l2 x13_1).f1)) := (blk_cell BK161.out 1).trans rfl
             have hfz20_0 := blk_frozen BK161.out 0
             have hfz20_1 := blk_frozen BK161.out 1
             go_wp2
             repeat (go_quiet (fail); try go_wp2)
             go_meet
             case rel => exact ⟨_, (wrap64 (x7_1 + 1)), (by first | rfl | (simp; done) | (simp [*]; done)), H', ⟨by have := HK1.out; have := HJ6.out; first | omega | exact Nat.le_refl _⟩, ⟨by (with_reducible repeat (first | refine blk_drewN ?_ _ | refine blk_drew ?_ | refine blk_alloc ?_ _)); exact BK161.out⟩, ⟨by repeat (first | (with_reducible first | exact HB.out | apply below_alloc | apply pw_below_drewN | apply below_drew1 | refine below_set ?_ GE161.out) | exact HB.out)⟩⟩
           ·
            rw [if_neg c17] at H
            have c17b0 : (((rd_T43 l2 x13_1).f0) == x7_1) = false := beq_eq_false_iff_ne.mpr c17
            have c17b1 : (((rd_T43 l2 x13_1).f0) != x7_1) = true := bne_iff_ne.mpr c17
            obtain rfl := Option.some.inj H
            have hcz21_0 : wc.cell? ⟨gb161, 0, none⟩ = some (.int .i64 ((rd_T43 l2 x13_1).f0)) := (blk_cell BK161.out 0).trans rfl
            have hcz21_1 : wc.cell? ⟨gb161, 1, none⟩ = some (.int .i64 ((rd_T43 l2 x13_1).f1)) := (blk_cell BK161.out 1).trans rfl
            have hfz21_0 := blk_frozen BK161.out 0
            have hfz21_1 := blk_frozen BK161.out 1
            go_wp2
            repeat (go_quiet (fail); try go_wp2)
            go_ret
            exact ⟨by first | rfl | (simp [errW_none, errW_some] <;> rfl) | (simp [*, errW_none, errW_some] <;> rfl), by repeat (first | (with_reducible first | exact HB.out | apply below_alloc | apply pw_below_drewN | apply below_drew1 | refine below_set ?_ GE161.out) | exact HB.out)⟩
         case rest =>
          clear HC14
          try clear c1
          try clear p1
          try clear q1
          try clear hx1
          try clear c2
          try clear p2
          try clear c4
          try clear c4b0
          try clear c5
          try clear c5b0
          try clear c6
          try clear c6b0
          try clear p6
          try clear c10
          try clear c10b0
          try clear c10b1
          try clear c13
          try clear c16
          try clear c16b0
          try clear c16b1
          try clear p16
          try clear q16
          try clear hx16
          try clear c17
          try clear c17b0
          try clear c17b1
          try clear c18
          try clear c18b0
          try clear hcz11_0
          try clear hcz11_1
          try clear hcz12_0
          try clear hcz12_1
          try clear hcz15_0
          try clear hcz15_1
          try clear hcz19_0
          try clear hcz19_1
          try clear hcz20_0
          try clear hcz20_1
          try clear hcz21_0
          try clear hcz21_1
          try clear hcz9_0
          try clear hcz9_1
          try clear hfz11_0
          try clear hfz11_1
          try clear hfz12_0
          try clear hfz12_1
          try clear hfz15_0
          try clear hfz15_1
          try clear hfz19_0
          try clear hfz19_1
          try clear hfz20_0
          try clear hfz20_1
          try clear hfz21_0
          try clear hfz21_1
          try clear hfz9_0
          try clear hfz9_1
          try clear hx160_0
          try clear hx160_1
          try clear p1
          try clear p160
          try clear p2
          try clear q1
          try clear q160
          obtain ⟨kq, x7_13, rfl, HA, HJ13, BK161, HB⟩ := hcut
          cases kq with
          | zero => exact absurd HA.out (by simp [align_Check.j2])
          | succ kj13 =>
           have H := HA.out
           clear HA
           simp only [align_Check.j2] at H
           by_cases c22 : ((rd_T43 l2 x13_1).f1) = (-1)
           ·
            rw [if_pos c22] at H
            have c22b0 : (((rd_T43 l2 x13_1).f1) == (-1)) = true := beq_iff_eq.mpr c22
            have c22b1 : (((rd_T43 l2 x13_1).f1) != (-1)) = false := bne_eq_false_iff_eq.mpr c22
            clear c22
            by_cases c23 : ((rd_T43 l2 x13_1).f0) = (-1)
            ·
             rw [if_pos c23] at H
             have c23b0 : (((rd_T43 l2 x13_1).f0) == (-1)) = true := beq_iff_eq.mpr c23
             have c23b1 : (((rd_T43 l2 x13_1).f0) != (-1)) = false := bne_eq_false_iff_eq.mpr c23
             clear c23
             have H' := Aside0.mk H
             clear H
             have hcz24_0 : wc.cell? ⟨gb161, 0, none⟩ = some (.int .i64 ((rd_T43 l2 x13_1).f0)) := (blk_cell BK161.out 0).trans rfl
             have hcz24_1 : wc.cell? ⟨gb161, 1, none⟩ = some (.int .i64 ((rd_T43 l2 x13_1).f1)) := (blk_cell BK161.out 1).trans rfl
             have hfz24_0 := blk_frozen BK161.out 0
             have hfz24_1 := blk_frozen BK161.out 1
             go_wp2
             repeat (go_quiet (fail); try go_wp2)
             go_roundg kj13
             case measure => have := HK1.out; have := HJ6.out; have := HJ13.out; omega
             case rel => exact ⟨(x7_13), (x8_1), (wrap64 (x13_1 + 1)), (by first | rfl | (simp; done) | (simp [*]; done)), (by first | rfl | (simp; done) | (simp [*]; done)), (by first | rfl | (simp; done) | (simp [*]; done)), H', ⟨by have := HK1.out; have := HJ6.out; have := HJ13.out; omega⟩, ⟨by repeat (first | (with_reducible first | exact HB.out | apply below_alloc | apply pw_below_drewN | apply below_drew1 | refine below_set ?_ GE161.out) | exact HB.out)⟩⟩
            ·
             rw [if_neg c23] at H
             have c23b0 : (((rd_T43 l2 x13_1).f0) == (-1)) = false := beq_eq_false_iff_ne.mpr c23
             have c23b1 : (((rd_T43 l2 x13_1).f0) != (-1)) = true := bne_iff_ne.mpr c23
             have H' := Aside0.mk H
             clear H
             have hcz25_0 : wc.cell? ⟨gb161, 0, none⟩ = some (.int .i64 ((rd_T43 l2 x13_1).f0)) := (blk_cell BK161.out 0).trans rfl
             have hcz25_1 : wc.cell? ⟨gb161, 1, none⟩ = some (.int .i64 ((rd_T43 l2 x13_1).f1)) := (blk_cell BK161.out 1).trans rfl
             have hfz25_0 := blk_frozen BK161.out 0
             have hfz25_1 := blk_frozen BK161.out 1
             go_wp2
             repeat (go_quiet (fail); try go_wp2)
             go_roundg kj13
             case measure => have := HK1.out; have := HJ6.out; have := HJ13.out; omega
             case rel => exact ⟨(x7_13), (x8_1), (wrap64 (x13_1 + 1)), (by first | rfl | (simp; done) | (simp [*]; done)), (by first | rfl | (simp; done) | (simp [*]; done)), (by first | rfl | (simp; done) | (simp [*]; done)), H', ⟨by have := HK1.out; have := HJ6.out; have := HJ13.out; omega⟩, ⟨by repeat (first | (with_reducible first | exact HB.out | apply below_alloc | apply pw_below_drewN | apply below_drew1 | refine below_set ?_ GE161.out) | exact HB.out)⟩⟩
           ·
            rw [if_neg c22] at H
            have c22b0 : (((rd_T43 l2 x13_1).f1) == (-1)) = false := beq_eq_false_iff_ne.mpr c22
            have c22b1 : (((rd_T43 l2 x13_1).f1) != (-1)) = true := bne_iff_ne.mpr c22
            have HC26 := Aside0.mk H
            clear H
            have hcz27_0 : wc.cell? ⟨gb161, 0, none⟩ = some (.int .i64 ((rd_T43 l2 x13_1).f0)) := (blk_cell BK161.out 0).trans rfl
            have hcz27_1 : wc.cell? ⟨gb161, 1, none⟩ = some (.int .i64 ((rd_T43 l2 x13_1).f1)) := (blk_cell BK161.out 1).trans rfl
            have hfz27_0 := blk_frozen BK161.out 0
            have hfz27_1 := blk_frozen BK161.out 1
            go_upto_region 12 with (fail)
            repeat (go_quiet (fail); go_upto_region 12 with (fail))
            go_cut [52] (fun v52 wc => ∃ (kq : Nat) (x52_25 : Bool), v52 = .bool x52_25 ∧ Aside0 (align_Check.j3 kq l0 l1 x7_13 x8_1 l2 (l2.length : Int) x13_1 x52_25 ((rd_T43 l2 x13_1).f0) ((rd_T43 l2 x13_1).f1) = some r) ∧ Aside0 (kq ≤ kj13) ∧ Aside0 (wc.heap[gb161]? = some (.cells #[.int .i64 ((rd_T43 l2 x13_1).f0), .int .i64 ((rd_T43 l2 x13_1).f1)] 43 (0, 0))) ∧ Aside0 (Below w.heap.size w wc))
            case first =>
             have H := HC26.out
             clear HC26
             by_cases c28 : ((rd_T43 l2 x13_1).f1) = x8_1
             ·
              rw [if_pos c28] at H
              have c28b0 : (((rd_T43 l2 x13_1).f1) == x8_1) = true := beq_iff_eq.mpr c28
              have c28b1 : (((rd_T43 l2 x13_1).f1) != x8_1) = false := bne_eq_false_iff_eq.mpr c28
              clear c28
              (first | rw [c28b0] | (simp only [i64_w, i32_w]; rw [c28b0]) | skip)
              have H' := Aside0.mk H
              clear H
              have hcz29_0 : wc.cell? ⟨gb161, 0, none⟩ = some (.int .i64 ((rd_T43 l2 x13_1).f0)) := (blk_cell BK161.out 0).trans rfl
              have hcz29_1 : wc.cell? ⟨gb161, 1, none⟩ = some (.int .i64 ((rd_T43 l2 x13_1).f1)) := (blk_cell BK161.out 1).trans rfl
              have hfz29_0 := blk_frozen BK161.out 0
              have hfz29_1 := blk_frozen BK161.out 1
              go_wp2
              repeat (go_quiet (fail); try go_wp2)
              go_meet
              case rel => exact ⟨_, (decide (x8_1 ≥ (l1.length : Int))), (by first | rfl | (simp; done) | (simp [*]; done)), H', ⟨by have := HK1.out; have := HJ6.out; have := HJ13.out; first | omega | exact Nat.le_refl _⟩, ⟨by (with_reducible repeat (first | refine blk_drewN ?_ _ | refine blk_drew ?_ | refine blk_alloc ?_ _)); exact BK161.out⟩, ⟨by repeat (first | (with_reducible first | exact HB.out | apply below_alloc | apply pw_below_drewN | apply below_drew1 | refine below_set ?_ GE161.out) | exact HB.out)⟩⟩
             ·
              rw [if_neg c28] at H
              have c28b0 : (((rd_T43 l2 x13_1).f1) == x8_1) = false := beq_eq_false_iff_ne.mpr c28
              have c28b1 : (((rd_T43 l2 x13_1).f1) != x8_1) = true := bne_iff_ne.mpr c28
              (first | rw [c28b0] | (simp only [i64_w, i32_w]; rw [c28b0]) | skip)
              have H' := Aside0.mk H
              clear H
              have hcz30_0 : wc.cell? ⟨gb161, 0, none⟩ = some (.int .i64 ((rd_T43 l2 x13_1).f0)) := (blk_cell BK161.out 0).trans rfl
              have hcz30_1 : wc.cell? ⟨gb161, 1, none⟩ = some (.int .i64 ((rd_T43 l2 x13_1).f1)) := (blk_cell BK161.out 1).trans rfl
              have hfz30_0 := blk_frozen BK161.out 0
              have hfz30_1 := blk_frozen BK161.out 1
              go_wp2
              repeat (go_quiet (fail); try go_wp2)
              go_meet
              case rel => exact ⟨_, (true), (by first | rfl | (simp; done) | (simp [*]; done)), H', ⟨by have := HK1.out; have := HJ6.out; have := HJ13.out; first | omega | exact Nat.le_refl _⟩, ⟨by (with_reducible repeat (first | refine blk_drewN ?_ _ | refine blk_drew ?_ | refine blk_alloc ?_ _)); exact BK161.out⟩, ⟨by repeat (first | (with_reducible first | exact HB.out | apply below_alloc | apply pw_below_drewN | apply below_drew1 | refine below_set ?_ GE161.out) | exact HB.out)⟩⟩
            case rest =>
             clear HC26
             try clear c1
             try clear p1
             try clear q1
             try clear hx1
             try clear c2
             try clear p2
             try clear c4
             try clear c4b0
             try clear c5
             try clear c5b0
             try clear c6
             try clear c6b0
             try clear p6
             try clear c10
             try clear c10b0
             try clear c10b1
             try clear c13
             try clear c16
             try clear c16b0
             try clear c16b1
             try clear p16
             try clear q16
             try clear hx16
             try clear c17
             try clear c17b0
             try clear c17b1
             try clear c18
             try clear c18b0
             try clear c22
             try clear c22b0
             try clear c22b1
             try clear c23
             try clear c23b0
             try clear c23b1
             try clear c28
             try clear c28b0
             try clear c28b1
             try clear hcz11_0
             try clear hcz11_1
             try clear hcz12_0
             try clear hcz12_1
             try clear hcz15_0
             try clear hcz15_1
             try clear hcz19_0
             try clear hcz19_1
             try clear hcz20_0
             try clear hcz20_1
             try clear hcz21_0
             try clear hcz21_1
             try clear hcz24_0
             try clear hcz24_1
             try clear hcz25_0
             try clear hcz25_1
             try clear hcz27_0
             try clear hcz27_1
             try clear hcz29_0
             try clear hcz29_1
             try clear hcz30_0
             try clear hcz30_1
             try clear hcz9_0
             try clear hcz9_1
             try clear hfz11_0
             try clear hfz11_1
             try clear hfz12_0
             try clear hfz12_1
             try clear hfz15_0
             try clear hfz15_1
             try clear hfz19_0
             try clear hfz19_1
             try clear hfz20_0
             try clear hfz20_1
             try clear hfz21_0
             try clear hfz21_1
             try clear hfz24_0
             try clear hfz24_1
             try clear hfz25_0
             try clear hfz25_1
             try clear hfz27_0
             try clear hfz27_1
             try clear hfz29_0
             try clear hfz29_1
             try clear hfz30_0
             try clear hfz30_1
             try clear hfz9_0
             try clear hfz9_1
             try clear hx160_0
             try clear hx160_1
             try clear p1
             try clear p16
             try clear p160
             try clear p2
             try clear p6
             try clear q1
             try clear q16
             try clear q160
             obtain ⟨kq, x52_25, rfl, HA, HJ25, BK161, HB⟩ := hcut
             cases kq with
             | zero => exact absurd HA.out (by simp [align_Check.j3])
             | succ kj25 =>
              have H := HA.out
              clear HA
              simp only [align_Check.j3] at H
              by_cases c31 : x52_25 = true
              ·
               subst c31
               have H1 : (some false) = some r := by rw [if_pos rfl] at H; exact H
               clear H
               have H := H1
               clear H1
               obtain rfl := Option.some.inj H
               go_wp2
               repeat (go_quiet (fail); try go_wp2)
               go_ret
               exact ⟨by first | rfl | (simp [errW_none, errW_some] <;> rfl) | (simp [*, errW_none, errW_some] <;> rfl), by repeat (first | (with_reducible first | exact HB.out | apply below_alloc | apply pw_below_drewN | apply below_drew1 | refine below_set ?_ GE161.out) | exact HB.out)⟩
              ·
               replace c31 := Bool.eq_false_iff.mpr c31
               subst c31
               have H1 : (if ((rd_T43 l2 x13_1).f0) = (-1) then (align_Check.l0 kj25 l0 l1 x7_13 (wrap64 (x8_1 + 1)) l2 (l2.length : Int) (wrap64 (x13_1 + 1))) else (if ((rd_T43 l2 x13_1).f1) = (-1) then (align_Check.l0 kj25 l0 l1 x7_13 (wrap64 (x8_1 + 1)) l2 (l2.length : Int) (wrap64 (x13_1 + 1))) else (if 0 ≤ ((rd_T43 l2 x13_1).f0) then (if ((rd_T43 l2 x13_1).f0) < (l0.length : Int) then (if 0 ≤ ((rd_T43 l2 x13_1).f1) then (if ((rd_T43 l2 x13_1).f1) < (l1.length : Int) then (if (rdOf ByteArray.empty l0 ((rd_T43 l2 x13_1).f0)).toList = (rdOf ByteArray.empty l1 ((rd_T43 l2 x13_1).f1)).toList then (align_Check.l0 kj25 l0 l1 x7_13 (wrap64 (x8_1 + 1)) l2 (l2.length : Int) (wrap64 (x13_1 + 1))) else (some false)) else (none)) else (none)) else (none)) else (none)))) = some r := by rw [if_neg (show ¬ (false = true) by decide)] at H; exact H
               clear H
               have H := H1
               clear H1
               by_cases c32 : ((rd_T43 l2 x13_1).f0) = (-1)
               ·
                rw [if_pos c32] at H
                have c32b0 : (((rd_T43 l2 x13_1).f0) == (-1)) = true := beq_iff_eq.mpr c32
                have c32b1 : (((rd_T43 l2 x13_1).f0) != (-1)) = false := bne_eq_false_iff_eq.mpr c32
                clear c32
                have H' := Aside0.mk H
                clear H
                have hcz33_0 : wc.cell? ⟨gb161, 0, none⟩ = some (.int .i64 ((rd_T43 l2 x13_1).f0)) := (blk_cell BK161.out 0).trans rfl
                have hcz33_1 : wc.cell? ⟨gb161, 1, none⟩ = some (.int .i64 ((rd_T43 l2 x13_1).f1)) := (blk_cell BK161.out 1).trans rfl
                have hfz33_0 := blk_frozen BK161.out 0
                have hfz33_1 := blk_frozen BK161.out 1
                go_wp2
                repeat (go_quiet (fail); try go_wp2)
                go_roundg kj25
                case measure => have := HK1.out; have := HJ6.out; have := HJ13.out; have := HJ25.out; omega
                case rel => exact ⟨(x7_13), (wrap64 (x8_1 + 1)), (wrap64 (x13_1 + 1)), (by first | rfl | (simp; done) | (simp [*]; done)), (by first | rfl | (simp; done) | (simp [*]; done)), (by first | rfl | (simp; done) | (simp [*]; done)), H', ⟨by have := HK1.out; have := HJ6.out; have := HJ13.out; have := HJ25.out; omega⟩, ⟨by repeat (first | (with_reducible first | exact HB.out | apply below_alloc | apply pw_below_drewN | apply below_drew1 | refine below_set ?_ GE161.out) | exact HB.out)⟩⟩
               ·
                rw [if_neg c32] at H
                have c32b0 : (((rd_T43 l2 x13_1).f0) == (-1)) = false := beq_eq_false_iff_ne.mpr c32
                have c32b1 : (((rd_T43 l2 x13_1).f0) != (-1)) = true := bne_iff_ne.mpr c32
                by_cases c34 : ((rd_T43 l2 x13_1).f1) = (-1)
                ·
                 rw [if_pos c34] at H
                 have c34b0 : (((rd_T43 l2 x13_1).f1) == (-1)) = true := beq_iff_eq.mpr c34
                 have c34b1 : (((rd_T43 l2 x13_1).f1) != (-1)) = false := bne_eq_false_iff_eq.mpr c34
                 clear c34
                 have H' := Aside0.mk H
                 clear H
                 have hcz35_0 : wc.cell? ⟨gb161, 0, none⟩ = some (.int .i64 ((rd_T43 l2 x13_1).f0)) := (blk_cell BK161.out 0).trans rfl
                 have hcz35_1 : wc.cell? ⟨gb161, 1, none⟩ = some (.int .i64 ((rd_T43 l2 x13_1).f1)) := (blk_cell BK161.out 1).trans rfl
                 have hfz35_0 := blk_frozen BK161.out 0
                 have hfz35_1 := blk_frozen BK161.out 1
                 go_wp2
                 repeat (go_quiet (fail); try go_wp2)
                 go_roundg kj25
                 case measure => have := HK1.out; have := HJ6.out; have := HJ13.out; have := HJ25.out; omega
                 case rel => exact ⟨(x7_13), (wrap64 (x8_1 + 1)), (wrap64 (x13_1 + 1)), (by first | rfl | (simp; done) | (simp [*]; done)), (by first | rfl | (simp; done) | (simp [*]; done)), (by first | rfl | (simp; done) | (simp [*]; done)), H', ⟨by have := HK1.out; have := HJ6.out; have := HJ13.out; have := HJ25.out; omega⟩, ⟨by repeat (first | (with_reducible first | exact HB.out | apply below_alloc | apply pw_below_drewN | apply below_drew1 | refine below_set ?_ GE161.out) | exact HB.out)⟩⟩
                ·
                 rw [if_neg c34] at H
                 have c34b0 : (((rd_T43 l2 x13_1).f1) == (-1)) = false := beq_eq_false_iff_ne.mpr c34
                 have c34b1 : (((rd_T43 l2 x13_1).f1) != (-1)) = true := bne_iff_ne.mpr c34
                 by_cases c36 : 0 ≤ ((rd_T43 l2 x13_1).f0)
                 ·
                  rw [if_pos c36] at H
                  have c36b0 : decide (0 ≤ ((rd_T43 l2 x13_1).f0)) = true := decide_eq_true c36
                  clear c36
                  by_cases c37 : ((rd_T43 l2 x13_1).f0) < (l0.length : Int)
                  ·
                   rw [if_pos c37] at H
                   have c37b0 : decide (((rd_T43 l2 x13_1).f0) < (l0.length : Int)) = true := decide_eq_true c37
                   clear c37
                   by_cases c38 : 0 ≤ ((rd_T43 l2 x13_1).f1)
                   ·
                    rw [if_pos c38] at H
                    have c38b0 : decide (0 ≤ ((rd_T43 l2 x13_1).f1)) = true := decide_eq_true c38
                    clear c38
                    by_cases c39 : ((rd_T43 l2 x13_1).f1) < (l1.length : Int)
                    ·
                     rw [if_pos c39] at H
                     have c39b0 : decide (((rd_T43 l2 x13_1).f1) < (l1.length : Int)) = true := decide_eq_true c39
                     clear c39
                     by_cases c40 : (rdOf ByteArray.empty l0 ((rd_T43 l2 x13_1).f0)).toList = (rdOf ByteArray.empty l1 ((rd_T43 l2 x13_1).f1)).toList
                     ·
                      rw [if_pos c40] at H
                      have c40b0 : ((rdOf ByteArray.empty l0 ((rd_T43 l2 x13_1).f0)).toList == (rdOf ByteArray.empty l1 ((rd_T43 l2 x13_1).f1)).toList) = true := beq_iff_eq.mpr c40
                      have c40b1 : ((rdOf ByteArray.empty l0 ((rd_T43 l2 x13_1).f0)).toList != (rdOf ByteArray.empty l1 ((rd_T43 l2 x13_1).f1)).toList) = false := bne_eq_false_iff_eq.mpr c40
                      clear c40
                      have H' := Aside0.mk H
                      clear H
                      have hcz41_0 : wc.cell? ⟨gb161, 0, none⟩ = some (.int .i64 ((rd_T43 l2 x13_1).f0)) := (blk_cell BK161.out 0).trans rfl
                      have hcz41_1 : wc.cell? ⟨gb161, 1, none⟩ = some (.int .i64 ((rd_T43 l2 x13_1).f1)) := (blk_cell BK161.out 1).trans rfl
                      have hfz41_0 := blk_frozen BK161.out 0
                      have hfz41_1 := blk_frozen BK161.out 1
                      have p162 : 0 ≤ (((rd_T43 l2 x13_1).f0) : Int) := of_decide_eq_true (by first | (with_reducible assumption) | assumption)
                      have q162 : ((rd_T43 l2 x13_1).f0) < (l0.length : Int) := of_decide_eq_true (by first | (with_reducible assumption) | assumption)
                      obtain ⟨ad162, e162, hx162_0⟩ := Kd.at_string HR0.out ((rd_T43 l2 x13_1).f0) p162 q162
                      cases e162
                      replace hx162_0 := (HB.out.cell (World.block_lt_of_cell? w _ hx162_0)).trans hx162_0
                      replace p162 := eq_true p162
                      replace q162 := eq_true q162
                      have p163 : 0 ≤ (((rd_T43 l2 x13_1).f1) : Int) := of_decide_eq_true (by first | (with_reducible assumption) | assumption)
                      have q163 : ((rd_T43 l2 x13_1).f1) < (l1.length : Int) := of_decide_eq_true (by first | (with_reducible assumption) | assumption)
                      obtain ⟨ad163, e163, hx163_0⟩ := Kd.at_string HR1.out ((rd_T43 l2 x13_1).f1) p163 q163
                      cases e163
                      replace hx163_0 := (HB.out.cell (World.block_lt_of_cell? w _ hx163_0)).trans hx163_0
                      replace p163 := eq_true p163
                      replace q163 := eq_true q163
                      go_wp2
                      repeat (go_quiet (fail); try go_wp2)
                      go_roundg kj25
                      case measure => have := HK1.out; have := HJ6.out; have := HJ13.out; have := HJ25.out; omega
                      case rel => exact ⟨(x7_13), (wrap64 (x8_1 + 1)), (wrap64 (x13_1 + 1)), (by first | rfl | (simp; done) | (simp [*]; done)), (by first | rfl | (simp; done) | (simp [*]; done)), (by first | rfl | (simp; done) | (simp [*]; done)), H', ⟨by have := HK1.out; have := HJ6.out; have := HJ13.out; have := HJ25.out; omega⟩, ⟨by repeat (first | (with_reducible first | exact HB.out | apply below_alloc | apply pw_below_drewN | apply below_drew1 | refine below_set ?_ GE161.out) | exact HB.out)⟩⟩
                     ·
                      rw [if_neg c40] at H
                      have c40b0 : ((rdOf ByteArray.empty l0 ((rd_T43 l2 x13_1).f0)).toList == (rdOf ByteArray.empty l1 ((rd_T43 l2 x13_1).f1)).toList) = false := beq_eq_false_iff_ne.mpr c40
                      have c40b1 : ((rdOf ByteArray.empty l0 ((rd_T43 l2 x13_1).f0)).toList != (rdOf ByteArray.empty l1 ((rd_T43 l2 x13_1).f1)).toList) = true := bne_iff_ne.mpr c40
                      obtain rfl := Option.some.inj H
                      have hcz42_0 : wc.cell? ⟨gb161, 0, none⟩ = some (.int .i64 ((rd_T43 l2 x13_1).f0)) := (blk_cell BK161.out 0).trans rfl
                      have hcz42_1 : wc.cell? ⟨gb161, 1, none⟩ = some (.int .i64 ((rd_T43 l2 x13_1).f1)) := (blk_cell BK161.out 1).trans rfl
                      have hfz42_0 := blk_frozen BK161.out 0
                      have hfz42_1 := blk_frozen BK161.out 1
                      have p162 : 0 ≤ (((rd_T43 l2 x13_1).f0) : Int) := of_decide_eq_true (by first | (with_reducible assumption) | assumption)
                      have q162 : ((rd_T43 l2 x13_1).f0) < (l0.length : Int) := of_decide_eq_true (by first | (with_reducible assumption) | assumption)
                      obtain ⟨ad162, e162, hx162_0⟩ := Kd.at_string HR0.out ((rd_T43 l2 x13_1).f0) p162 q162
                      cases e162
                      replace hx162_0 := (HB.out.cell (World.block_lt_of_cell? w _ hx162_0)).trans hx162_0
                      replace p162 := eq_true p162
                      replace q162 := eq_true q162
                      have p163 : 0 ≤ (((rd_T43 l2 x13_1).f1) : Int) := of_decide_eq_true (by first | (with_reducible assumption) | assumption)
                      have q163 : ((rd_T43 l2 x13_1).f1) < (l1.length : Int) := of_decide_eq_true (by first | (with_reducible assumption) | assumption)
                      obtain ⟨ad163, e163, hx163_0⟩ := Kd.at_string HR1.out ((rd_T43 l2 x13_1).f1) p163 q163
                      cases e163
                      replace hx163_0 := (HB.out.cell (World.block_lt_of_cell? w _ hx163_0)).trans hx163_0
                      replace p163 := eq_true p163
                      replace q163 := eq_true q163
                      go_wp2
                      repeat (go_quiet (fail); try go_wp2)
                      go_ret
                      exact ⟨by first | rfl | (simp [errW_none, errW_some] <;> rfl) | (simp [*, errW_none, errW_some] <;> rfl), by repeat (first | (with_reducible first | exact HB.out | apply below_alloc | apply pw_below_drewN | apply below_drew1 | refine below_set ?_ GE161.out) | exact HB.out)⟩
                    ·
                     rw [if_neg c39] at H
                     exact absurd H (by simp)
                   ·
                    rw [if_neg c38] at H
                    exact absurd H (by simp)
                  ·
                   rw [if_neg c37] at H
                   exact absurd H (by simp)
                 ·
                  rw [if_neg c36] at H
                  exact absurd H (by simp)
     ·
      rw [if_neg c6] at H
      exact absurd H (by simp)
    ·
     rw [if_neg c5] at H
     exact absurd H (by simp)
   ·
    rw [if_neg c4] at H
    have c4b0 : decide (x13_1 < (l2.length : Int)) = false := decide_eq_false c4
    clear c4
    by_cases c43 : x7_1 = (l0.length : Int)
    ·
     rw [if_pos c43] at H
     have c43b0 : (x7_1 == (l0.length : Int)) = true := beq_iff_eq.mpr c43
     have c43b1 : (x7_1 != (l0.length : Int)) = false := bne_eq_false_iff_eq.mpr c43
     clear c43
     obtain rfl := Option.some.inj H
     go_wp2
     repeat (go_quiet (fail); try go_wp2)
     go_ret
     exact ⟨by first | rfl | (simp [errW_none, errW_some] <;> rfl) | (simp [*, errW_none, errW_some] <;> rfl), by repeat (first | (with_reducible first | exact HB.out | apply below_alloc | apply pw_below_drewN | apply below_drew1) | exact HB.out)⟩
    ·
     rw [if_neg c43] at H
     have c43b0 : (x7_1 == (l0.length : Int)) = false := beq_eq_false_iff_ne.mpr c43
     have c43b1 : (x7_1 != (l0.length : Int)) = true := bne_iff_ne.mpr c43
     obtain rfl := Option.some.inj H
     go_wp2
     repeat (go_quiet (fail); try go_wp2)
     go_ret
     exact ⟨by first | rfl | (simp [errW_none, errW_some] <;> rfl) | (simp [*, errW_none, errW_some] <;> rfl), by repeat (first | (with_reducible first | exact HB.out | apply below_alloc | apply pw_below_drewN | apply below_drew1) | exact HB.out)⟩

/-! ### align_near: function 26 -/
def align_near.f (a0 : Int) : Option (Bool) := if a0 ≥ (-1152921504606846976) then (some (decide (a0 ≤ 1152921504606846976))) else (some false)
set_option maxHeartbeats 8000000 in
set_option maxRecDepth 100000 in
theorem align_near.calls (a0 : Int) (r : Bool) (w : World) (h : align_near.f a0 = some r) :
  Calls Try.prog 26 #[.int .i64 a0] w fun e w' => e = .returned (.bool r) ∧ Drawn0 w w' := by
 have H : (if a0 ≥ (-1152921504606846976) then (some (decide (a0 ≤ 1152921504606846976))) else (some false)) = some r := h
 clear h
 by_cases c2 : a0 ≥ (-1152921504606846976)
 ·
  rw [if_pos c2] at H
  have c2b0 : decide ((-1152921504606846976) ≤ a0) = true := decide_eq_true c2
  clear c2
  obtain rfl := Option.some.inj H
  go_enter Try.func26, Try.ntmps26
  go_wp2
  go_ret
  exact ⟨by first | rfl | (simp; done) | (simp [*]; done), by repeat (first | exact Drawn0.refl _ | apply Drawn0.step)⟩
 ·
  rw [if_neg c2] at H
  have c2b0 : decide ((-1152921504606846976) ≤ a0) = false := decide_eq_false c2
  clear c2
  obtain rfl := Option.some.inj H
  go_enter Try.func26, Try.ntmps26
  go_wp2
  go_ret
  exact ⟨by first | rfl | (simp; done) | (simp [*]; done), by repeat (first | exact Drawn0.refl _ | apply Drawn0.step)⟩

end Go.Proofs.Ytbkncndagheijaa.H
