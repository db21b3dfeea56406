-- Printed by wip/hprint.py (this project's own driver of the kit's print) out of the translation; Lean checks it.
import Derived.Test.YtejmegaalfblmaaH0
import Derived.Test.YtejmegaalfblmaaH12
namespace Go.Proofs.Ytejmegaalfblmaa.H
open Go.RowKit Go.Proofs.YtejmegaalfblmaaW.PrintWords Go.Proofs.YtejmegaalfblmaaW.PrintLast Go.Proofs.YtejmegaalfblmaaW.PrintMore
attribute [local go_sem] max2_int min2_int max_two min_two max_three min_three max_four min_four   -- for this text's walks alone
set_option linter.unusedVariables false
set_option linter.unusedSimpArgs false

/-! ### signalbenchref06_Common: function 16 -/
mutual
def signalbenchref06_Common.j0 : Nat → Int → Int → Int → Int → Int → Int → Option (Int × Int × Bool)
 | 0, _, _, _, _, _, _ => none
 | k + 1, x163000, x163001, x164000, x164001, x166000, x166001 => if x164001 < x166001 then (signalbenchref06_Common.j1 k x163000 x163001 x164000 x164001 x166000 x164001) else (signalbenchref06_Common.j1 k x163000 x163001 x164000 x164001 x166000 x166001)
def signalbenchref06_Common.j1 : Nat → Int → Int → Int → Int → Int → Int → Option (Int × Int × Bool)
 | 0, _, _, _, _, _, _ => none
 | k + 1, x163000, x163001, x164000, x164001, x166000, x166001 => (signalbenchref06_Valid.f x163000 x163001).bind fun t166 => (if t166 = true then ((signalbenchref06_Valid.f x164000 x164001).bind fun t167 => (if t167 = true then ((signalbenchref06_Valid.f x166000 x166001).bind fun t168 => (if t168 = true then (some (x166000, x166001, true)) else (some (0, 0, false)))) else (some (0, 0, false)))) else (some (0, 0, false)))
end
def signalbenchref06_Common.f (k : Nat) (a0_0 : Int) (a0_1 : Int) (a1_0 : Int) (a1_1 : Int) : Option (Int × Int × Bool) := if a1_0 > a0_0 then (signalbenchref06_Common.j0 k a0_0 a0_1 a1_0 a1_1 a1_0 a0_1) else (signalbenchref06_Common.j0 k a0_0 a0_1 a1_0 a1_1 a0_0 a0_1)
theorem signalbenchref06_Common.mono_l : ∀ k, (∀ y0 y1 y2 y3 y4 y5, LeO (signalbenchref06_Common.j0 k y0 y1 y2 y3 y4 y5) (signalbenchref06_Common.j0 (k + 1) y0 y1 y2 y3 y4 y5)) ∧ (∀ y0 y1 y2 y3 y4 y5, LeO (signalbenchref06_Common.j1 k y0 y1 y2 y3 y4 y5) (signalbenchref06_Common.j1 (k + 1) y0 y1 y2 y3 y4 y5))
 | 0 => ⟨fun _ _ _ _ _ _ r h => by simp [signalbenchref06_Common.j0] at h, fun _ _ _ _ _ _ r h => by simp [signalbenchref06_Common.j1] at h⟩
 | k + 1 => by
  obtain ⟨ih0, ih1⟩ := signalbenchref06_Common.mono_l k
  refine ⟨?_, ?_⟩
  ·
   intro y0 y1 y2 y3 y4 y5
   unfold signalbenchref06_Common.j0
   repeat' first
   | (with_reducible exact ih0 _ _ _ _ _ _)
   | (with_reducible exact ih1 _ _ _ _ _ _)
   | (with_reducible exact LeO.refl _)
   | (with_reducible exact LeO.none _)
   | (with_reducible refine LeO.ite ?_ ?_)
   | (with_reducible refine LeO.bind ?_ (fun _ => ?_))
   | exact ih0 _ _ _ _ _ _
   | exact ih1 _ _ _ _ _ _
   | exact LeO.none _
   | refine LeO.ite ?_ ?_
   | refine LeO.bind ?_ (fun _ => ?_)
  ·
   intro y0 y1 y2 y3 y4 y5
   unfold signalbenchref06_Common.j1
   repeat' first
   | (with_reducible exact ih0 _ _ _ _ _ _)
   | (with_reducible exact ih1 _ _ _ _ _ _)
   | (with_reducible exact LeO.refl _)
   | (with_reducible exact LeO.none _)
   | (with_reducible refine LeO.ite ?_ ?_)
   | (with_reducible refine LeO.bind ?_ (fun _ => ?_))
   | exact ih0 _ _ _ _ _ _
   | exact ih1 _ _ _ _ _ _
   | exact LeO.none _
   | refine LeO.ite ?_ ?_
   | refine LeO.bind ?_ (fun _ => ?_)
theorem signalbenchref06_Common.mono : ∀ a0 a1 a2 a3 k, LeO (signalbenchref06_Common.f k a0 a1 a2 a3) (signalbenchref06_Common.f (k + 1) a0 a1 a2 a3) := by
 intro a0 a1 a2 a3 k
 obtain ⟨ih0, ih1⟩ := signalbenchref06_Common.mono_l k
 unfold signalbenchref06_Common.f
 repeat' first
   | (with_reducible exact ih0 _ _ _ _ _ _)
   | (with_reducible exact ih1 _ _ _ _ _ _)
   | (with_reducible exact LeO.refl _)
   | (with_reducible exact LeO.none _)
   | (with_reducible refine LeO.ite ?_ ?_)
   | (with_reducible refine LeO.bind ?_ (fun _ => ?_))
   | exact ih0 _ _ _ _ _ _
   | exact ih1 _ _ _ _ _ _
   | exact LeO.none _
   | refine LeO.ite ?_ ?_
   | refine LeO.bind ?_ (fun _ => ?_)
set_option maxHeartbeats 8000000 in
set_option maxRecDepth 100000 in
theorem signalbenchref06_Common.calls (k : Nat) (a0_0 : Int) (a0_1 : Int) (a1_0 : Int) (a1_1 : Int) (r1 : Int) (r2 : Int) (r3 : Bool) (w : World) (h : signalbenchref06_Common.f k a0_0 a0_1 a1_0 a1_1 = some (r1, r2, r3)) :
  Calls Try.prog 16 #[.agg #[.int .i64 a0_0, .int .i64 a0_1], .agg #[.int .i64 a1_0, .int .i64 a1_1]] w fun e w' => e = .returned (.tuple #[.agg #[.int .i64 r1, .int .i64 r2], .bool r3]) ∧ Below w.heap.size w w' := by
 have hu25 := Try.underlying25
 have HB := Aside0.mk (Below.refl w.heap.size w)
 have H : (if a1_0 > a0_0 then (signalbenchref06_Common.j0 k a0_0 a0_1 a1_0 a1_1 a1_0 a0_1) else (signalbenchref06_Common.j0 k a0_0 a0_1 a1_0 a1_1 a0_0 a0_1)) = some (r1, r2, r3) := h
 clear h
 have HC3 := Aside0.mk H
 clear H
 go_enter Try.func16, Try.ntmps16
 go_upto_if 12 with (first | ((with_reducible refine gate_dst (N := 2) rfl ?_); refine box_event ?hg (N := 2) ?hd (cs := #[.int .i64 a0_0, .int .i64 a0_1]) (t := 25) ?hr ?_; (case hd => rfl); (case hg => rfl); (case hr => first | (go_simp; done) | (go_simp; rfl)); intro gb162 hg w4 hbox hb; have n0_ := Aside0.mk (below_step (bs HB.out) hb); have n1_ := Aside0.mk (hbox); have n2_ := Aside0.mk ((by rw [hg]; exact (below_size (bs HB.out)) : w.heap.size ≤ gb162)); have n3_ := n2_; clear HB; have HB := n0_; have BK162 := n1_; have GW162 := n2_; have GE162 := n3_; clear n0_ n1_ n2_ n3_; clear hb hbox hg) | ((with_reducible refine gate_dst (N := 3) rfl ?_); refine box_event ?hg (N := 3) ?hd (cs := #[.int .i64 a1_0, .int .i64 a1_1]) (t := 25) ?hr ?_; (case hd => rfl); (case hg => rfl); (case hr => first | (go_simp; done) | (go_simp; rfl)); intro gb163 hg w5 hbox hb; have n0_ := Aside0.mk (blk_below (bg BK162.out) hb); have n1_ := Aside0.mk (below_step (bs HB.out) hb); have n2_ := Aside0.mk (hbox); have n3_ := Aside0.mk ((by rw [hg]; exact (below_size (bs HB.out)) : w.heap.size ≤ gb163)); have n4_ := n3_; have n5_ := Aside0.mk ((by rw [hg]; exact Nat.ne_of_lt (blk_lt (bg BK162.out)) : gb162 ≠ gb163)); have n6_ := Aside0.mk ((by rw [hg]; exact Nat.ne_of_gt (blk_lt (bg BK162.out)) : gb163 ≠ gb162)); clear BK162; clear HB; have BK162 := n0_; have HB := n1_; have BK163 := n2_; have GW163 := n3_; have GE163 := n4_; have NB162_163 := n5_; have NB163_162 := n6_; clear n0_ n1_ n2_ n3_ n4_ n5_ n6_; clear hb hbox hg) | ((with_reducible refine gate_dst (N := 4) rfl ?_); refine box_event ?hg (N := 4) ?hd (cs := #[.int .i64 0, .int .i64 0]) (t := 25) ?hr ?_; (case hd => rfl); (case hg => rfl); (case hr => first | (go_simp; done) | (go_simp; rfl)); intro gb164 hg w6 hbox hb; have n0_ := Aside0.mk (blk_below (bg BK162.out) hb); have n1_ := Aside0.mk (blk_below (bg BK163.out) hb); have n2_ := Aside0.mk (below_step (bs HB.out) hb); have n3_ := Aside0.mk (hbox); have n4_ := Aside0.mk ((by rw [hg]; exact (below_size (bs HB.out)) : w.heap.size ≤ gb164)); have n5_ := n4_; have n6_ := Aside0.mk ((by rw [hg]; exact Nat.ne_of_lt (blk_lt (bg BK162.out)) : gb162 ≠ gb164)); have n7_ := Aside0.mk ((by rw [hg]; exact Nat.ne_of_gt (blk_lt (bg BK162.out)) : gb164 ≠ gb162)); have n8_ := Aside0.mk ((by rw [hg]; exact Nat.ne_of_lt (blk_lt (bg BK163.out)) : gb163 ≠ gb164)); have n9_ := Aside0.mk ((by rw [hg]; exact Nat.ne_of_gt (blk_lt (bg BK163.out)) : gb164 ≠ gb163)); clear BK162; clear BK163; clear HB; have BK162 := n0_; have BK163 := n1_; have HB := n2_; have BK164 := n3_; have GW164 := n4_; have GE164 := n5_; have NB162_164 := n6_; have NB164_162 := n7_; have NB163_164 := n8_; have NB164_163 := n9_; clear n0_ n1_ n2_ n3_ n4_ n5_ n6_ n7_ n8_ n9_; clear hb hbox hg; have hnb7 := NB162_163.out; have hnc7 := NB163_162.out; have hnb8 := NB162_164.out; have hnc8 := NB164_162.out; obtain ⟨hcz9_0, hcz9_1⟩ := bc2 BK162.out; obtain ⟨hfz9_0, hfz9_1⟩ := bf2 BK162.out) | ((with_reducible refine gate_dst (N := 6) rfl ?_); refine box_event ?hg (N := 6) ?hd (cs := #[.int .i64 0, .int .i64 0]) (t := 25) ?hr ?_; (case hd => rfl); (case hg => rfl); (case hr => first | (go_simp; done) | (go_simp; rfl)); intro gb165 hg w10 hbox hb; have n0_ := Aside0.mk (blk_below (bg BK162.out) hb); have n1_ := Aside0.mk (blk_below (bg BK163.out) hb); have n2_ := Aside0.mk (blk_below (bg BK164.out) hb); have n3_ := Aside0.mk (below_step (bs HB.out) hb); have n4_ := Aside0.mk (hbox); have n5_ := Aside0.mk ((by rw [hg]; exact (below_size (bs HB.out)) : w.heap.size ≤ gb165)); have n6_ := n5_; have n7_ := Aside0.mk ((by rw [hg]; exact Nat.ne_of_lt (blk_lt (bg BK162.out)) : gb162 ≠ gb165)); have n8_ := Aside0.mk ((by rw [hg]; exact Nat.ne_of_gt (blk_lt (bg BK162.out)) : gb165 ≠ gb162)); have n9_ := Aside0.mk ((by rw [hg]; exact Nat.ne_of_lt (blk_lt (bg BK163.out)) : gb163 ≠ gb165)); have n10_ := Aside0.mk ((by rw [hg]; exact Nat.ne_of_gt (blk_lt (bg BK163.out)) : gb165 ≠ gb163)); have n11_ := Aside0.mk ((by rw [hg]; exact Nat.ne_of_lt (blk_lt (bg BK164.out)) : gb164 ≠ gb165)); have n12_ := Aside0.mk ((by rw [hg]; exact Nat.ne_of_gt (blk_lt (bg BK164.out)) : gb165 ≠ gb164)); clear BK162; clear BK163; clear BK164; clear HB; have BK162 := n0_; have BK163 := n1_; have BK164 := n2_; have HB := n3_; have BK165 := n4_; have GW165 := n5_; have GE165 := n6_; have NB162_165 := n7_; have NB165_162 := n8_; have NB163_165 := n9_; have NB165_163 := n10_; have NB164_165 := n11_; have NB165_164 := n12_; clear n0_ n1_ n2_ n3_ n4_ n5_ n6_ n7_ n8_ n9_ n10_ n11_ n12_; clear hb hbox hg; have hnb11 := NB165_162.out; have hnc11 := NB162_165.out; have hnb12 := NB165_163.out; have hnc12 := NB163_165.out; have hnb13 := NB165_164.out; have hnc13 := NB164_165.out; obtain ⟨hcz14_0, hcz14_1⟩ := bc2 BK165.out; obtain ⟨hfz14_0, hfz14_1⟩ := bf2 BK165.out; have hnb15 := NB163_164.out; have hnc15 := NB164_163.out; obtain ⟨hcz16_0, hcz16_1⟩ := bc2 BK163.out; obtain ⟨hfz16_0, hfz16_1⟩ := bf2 BK163.out))
 (try simp only [Act.put, List.setIfInBounds_toArray, List.set_cons_zero, List.set_cons_succ])
 go_cut [] (fun wc => ∃ (kq : Nat) (x166000_2 : Int), Aside0 (signalbenchref06_Common.j0 kq a0_0 a0_1 a1_0 a1_1 x166000_2 a0_1 = some (r1, r2, r3)) ∧ Aside0 (kq ≤ k) ∧ Aside0 (wc.heap[gb162]? = some (.cells #[.int .i64 a0_0, .int .i64 a0_1] 25 (0, 0))) ∧ Aside0 (wc.heap[gb163]? = some (.cells #[.int .i64 a1_0, .int .i64 a1_1] 25 (0, 0))) ∧ Aside0 (wc.heap[gb164]? = some (.cells #[.int .i64 0, .int .i64 0] 25 (0, 0))) ∧ Aside0 (wc.heap[gb165]? = some (.cells #[.int .i64 x166000_2, .int .i64 a0_1] 25 (0, 0))) ∧ Aside0 (Below w.heap.size w wc))
 case first =>
  have H := HC3.out
  clear HC3
  by_cases c17 : a1_0 > a0_0
  ·
   rw [if_pos c17] at H
   have c17b0 : decide (a0_0 < a1_0) = true := decide_eq_true c17
   clear c17
   (first | rw [c17b0] | (simp only [i64_w, i32_w]; rw [c17b0]) | skip)
   have H' := Aside0.mk H
   clear H
   have hnb18 := NB163_162.out
   have hnc18 := NB162_163.out
   have hnb19 := NB163_164.out
   have hnc19 := NB164_163.out
   have hnb20 := NB163_165.out
   have hnc20 := NB165_163.out
   obtain ⟨hcz21_0, hcz21_1⟩ := bc2 BK163.out
   obtain ⟨hfz21_0, hfz21_1⟩ := bf2 BK163.out
   have hnb22 := NB165_162.out
   have hnc22 := NB162_165.out
   have hnb23 := NB165_164.out
   have hnc23 := NB164_165.out
   obtain ⟨hcz24_0, hcz24_1⟩ := bc2 BK165.out
   obtain ⟨hfz24_0, hfz24_1⟩ := bf2 BK165.out
   go_wp2
   go_meet
   case rel => exact ⟨_, (a1_0), H', ⟨by first | omega | exact Nat.le_refl _⟩, ⟨by (iterate 3 (with_reducible repeat (first | refine blk_drewN ?_ _ | refine blk_drew ?_ | refine blk_alloc ?_ _)); refine blk_far ?_ NB162_165.out _); exact bg BK162.out⟩, ⟨by (iterate 3 (with_reducible repeat (first | refine blk_drewN ?_ _ | refine blk_drew ?_ | refine blk_alloc ?_ _)); refine blk_far ?_ NB163_165.out _); exact bg BK163.out⟩, ⟨by (iterate 3 (with_reducible repeat (first | refine blk_drewN ?_ _ | refine blk_drew ?_ | refine blk_alloc ?_ _)); refine blk_far ?_ NB164_165.out _); exact bg BK164.out⟩, ⟨by (with_reducible repeat (first | refine blk_drewN ?_ _ | refine blk_drew ?_ | refine blk_alloc ?_ _)); refine blk_put (cs := #[.int .i64 a0_0, .int .i64 a0_1]) ?_ 0 _ rfl; (with_reducible repeat (first | refine blk_drewN ?_ _ | refine blk_drew ?_ | refine blk_alloc ?_ _)); refine blk_put (cs := #[.int .i64 a0_0, .int .i64 0]) ?_ 1 _ rfl; (with_reducible repeat (first | refine blk_drewN ?_ _ | refine blk_drew ?_ | refine blk_alloc ?_ _)); refine blk_put (cs := #[.int .i64 0, .int .i64 0]) ?_ 0 _ rfl; exact bg BK165.out⟩, ⟨bs HB.out⟩⟩
  ·
   rw [if_neg c17] at H
   have c17b0 : decide (a0_0 < a1_0) = false := decide_eq_false c17
   clear c17
   (first | rw [c17b0] | (simp only [i64_w, i32_w]; rw [c17b0]) | skip)
   have H' := Aside0.mk H
   clear H
   go_wp2
   go_meet
   case rel => exact ⟨_, (a0_0), H', ⟨by first | omega | exact Nat.le_refl _⟩, ⟨by (iterate 2 (with_reducible repeat (first | refine blk_drewN ?_ _ | refine blk_drew ?_ | refine blk_alloc ?_ _)); refine blk_far ?_ NB162_165.out _); exact bg BK162.out⟩, ⟨by (iterate 2 (with_reducible repeat (first | refine blk_drewN ?_ _ | refine blk_drew ?_ | refine blk_alloc ?_ _)); refine blk_far ?_ NB163_165.out _); exact bg BK163.out⟩, ⟨by (iterate 2 (with_reducible repeat (first | refine blk_drewN ?_ _ | refine blk_drew ?_ | refine blk_alloc ?_ _)); refine blk_far ?_ NB164_165.out _); exact bg BK164.out⟩, ⟨by exact pt2 (bg BK165.out)⟩, ⟨bs HB.out⟩⟩
 case rest =>
  clear HC3
  try clear c1
  try clear c2
  try clear p2
  try clear c7
  try clear c8
  try clear c11
  try clear c12
  try clear c13
  try clear c15
  try clear c16
  try clear c17
  try clear c17b0
  try clear c18
  try clear c19
  try clear c20
  try clear c22
  try clear c23
  try clear hcz14_0 hcz14_1
  try clear hcz16_0 hcz16_1
  try clear hcz21_0 hcz21_1
  try clear hcz24_0 hcz24_1
  try clear hcz9_0 hcz9_1
  try clear hfz14_0 hfz14_1
  try clear hfz16_0 hfz16_1
  try clear hfz21_0 hfz21_1
  try clear hfz24_0 hfz24_1
  try clear hfz9_0 hfz9_1
  obtain ⟨kq, x166000_2, HA, HJ2, BK162, BK163, BK164, BK165, HB⟩ := hcut
  cases kq with
  | zero => exact absurd HA.out (by simp [signalbenchref06_Common.j0])
  | succ kj2 =>
   have H := HA.out
   clear HA
   simp only [signalbenchref06_Common.j0] at H
   have HC25 := Aside0.mk H
   clear H
   have hnb26 := NB163_162.out
   have hnc26 := NB162_163.out
   have hnb27 := NB163_164.out
   have hnc27 := NB164_163.out
   have hnb28 := NB163_165.out
   have hnc28 := NB165_163.out
   obtain ⟨hcz29_0, hcz29_1⟩ := bc2 BK163.out
   obtain ⟨hfz29_0, hfz29_1⟩ := bf2 BK163.out
   have hnb30 := NB165_162.out
   have hnc30 := NB162_165.out
   have hnb31 := NB165_164.out
   have hnc31 := NB164_165.out
   obtain ⟨hcz32_0, hcz32_1⟩ := bc2 BK165.out
   obtain ⟨hfz32_0, hfz32_1⟩ := bf2 BK165.out
   go_upto_if 20 with (fail)
   go_cut [] (fun wc => ∃ (kq : Nat) (x166001_24 : Int), Aside0 (signalbenchref06_Common.j1 kq a0_0 a0_1 a1_0 a1_1 x166000_2 x166001_24 = some (r1, r2, r3)) ∧ Aside0 (kq ≤ kj2) ∧ Aside0 (wc.heap[gb162]? = some (.cells #[.int .i64 a0_0, .int .i64 a0_1] 25 (0, 0))) ∧ Aside0 (wc.heap[gb163]? = some (.cells #[.int .i64 a1_0, .int .i64 a1_1] 25 (0, 0))) ∧ Aside0 (wc.heap[gb164]? = some (.cells #[.int .i64 0, .int .i64 0] 25 (0, 0))) ∧ Aside0 (wc.heap[gb165]? = some (.cells #[.int .i64 x166000_2, .int .i64 x166001_24] 25 (0, 0))) ∧ Aside0 (Below w.heap.size w wc))
   case first =>
    have H := HC25.out
    clear HC25
    by_cases c33 : a1_1 < a0_1
    ·
     rw [if_pos c33] at H
     have c33b0 : decide (a1_1 < a0_1) = true := decide_eq_true c33
     clear c33
     (first | rw [c33b0] | (simp only [i64_w, i32_w]; rw [c33b0]) | skip)
     have H' := Aside0.mk H
     clear H
     have hnb34 := NB163_162.out
     have hnc34 := NB162_163.out
     have hnb35 := NB163_164.out
     have hnc35 := NB164_163.out
     have hnb36 := NB163_165.out
     have hnc36 := NB165_163.out
     obtain ⟨hcz37_0, hcz37_1⟩ := bc2 BK163.out
     obtain ⟨hfz37_0, hfz37_1⟩ := bf2 BK163.out
     have hnb38 := NB165_162.out
     have hnc38 := NB162_165.out
     have hnb39 := NB165_164.out
     have hnc39 := NB164_165.out
     obtain ⟨hcz40_0, hcz40_1⟩ := bc2 BK165.out
     obtain ⟨hfz40_0, hfz40_1⟩ := bf2 BK165.out
     go_wp2
     go_meet
     case rel => exact ⟨_, (a1_1), H', ⟨by have := HJ2.out; first | omega | exact Nat.le_refl _⟩, ⟨by (with_reducible repeat (first | refine blk_drewN ?_ _ | refine blk_drew ?_ | refine blk_alloc ?_ _)); refine blk_far ?_ NB162_165.out _; exact bg BK162.out⟩, ⟨by (with_reducible repeat (first | refine blk_drewN ?_ _ | refine blk_drew ?_ | refine blk_alloc ?_ _)); refine blk_far ?_ NB163_165.out _; exact bg BK163.out⟩, ⟨by (with_reducible repeat (first | refine blk_drewN ?_ _ | refine blk_drew ?_ | refine blk_alloc ?_ _)); refine blk_far ?_ NB164_165.out _; exact bg BK164.out⟩, ⟨by (with_reducible repeat (first | refine blk_drewN ?_ _ | refine blk_drew ?_ | refine blk_alloc ?_ _)); refine blk_put (cs := #[.int .i64 x166000_2, .int .i64 a0_1]) ?_ 1 _ rfl; exact bg BK165.out⟩, ⟨bs HB.out⟩⟩
    ·
     rw [if_neg c33] at H
     have c33b0 : decide (a1_1 < a0_1) = false := decide_eq_false c33
     clear c33
     (first | rw [c33b0] | (simp only [i64_w, i32_w]; rw [c33b0]) | skip)
     have H' := Aside0.mk H
     clear H
     go_wp2
     go_meet
     case rel => exact ⟨_, (a0_1), H', ⟨by have := HJ2.out; first | omega | exact Nat.le_refl _⟩, ⟨bg BK162.out⟩, ⟨bg BK163.out⟩, ⟨bg BK164.out⟩, ⟨bg BK165.out⟩, ⟨bs HB.out⟩⟩
   case rest =>
    clear HC25
    try clear c1
    try clear c2
    try clear p2
    try clear c3
    try clear c7
    try clear c8
    try clear c11
    try clear c12
    try clear c13
    try clear c15
    try clear c16
    try clear c17
    try clear c17b0
    try clear c18
    try clear c19
    try clear c20
    try clear c22
    try clear c23
    try clear c26
    try clear c27
    try clear c28
    try clear c30
    try clear c31
    try clear c33
    try clear c33b0
    try clear c34
    try clear c35
    try clear c36
    try clear c38
    try clear c39
    try clear hcz14_0 hcz14_1
    try clear hcz16_0 hcz16_1
    try clear hcz21_0 hcz21_1
    try clear hcz24_0 hcz24_1
    try clear hcz29_0 hcz29_1
    try clear hcz32_0 hcz32_1
    try clear hcz37_0 hcz37_1
    try clear hcz40_0 hcz40_1
    try clear hcz9_0 hcz9_1
    try clear hfz14_0 hfz14_1
    try clear hfz16_0 hfz16_1
    try clear hfz21_0 hfz21_1
    try clear hfz24_0 hfz24_1
    try clear hfz29_0 hfz29_1
    try clear hfz32_0 hfz32_1
    try clear hfz37_0 hfz37_1
    try clear hfz40_0 hfz40_1
    try clear hfz9_0 hfz9_1
    try clear p2
    obtain ⟨kq, x166001_24, HA, HJ24, BK162, BK163, BK164, BK165, HB⟩ := hcut
    cases kq with
    | zero => exact absurd HA.out (by simp [signalbenchref06_Common.j1])
    | succ kj24 =>
     have H := HA.out
     clear HA
     simp only [signalbenchref06_Common.j1] at H
     replace H := Option.bind_eq_some_iff.mp H
     obtain ⟨t166, A410, H⟩ := H
     replace H : (if t166 = true then ((signalbenchref06_Valid.f a1_0 a1_1).bind fun t167 => (if t167 = true then ((signalbenchref06_Valid.f x166000_2 x166001_24).bind fun t168 => (if t168 = true then (some (x166000_2, x166001_24, true)) else (some (0, 0, false)))) else (some (0, 0, false)))) else (some (0, 0, false))) = some (r1, r2, r3) := H
     have A41 := Aside0.mk A410
     clear A410
     by_cases c42 : t166 = true
     ·
      subst c42
      have H1 : ((signalbenchref06_Valid.f a1_0 a1_1).bind fun t167 => (if t167 = true then ((signalbenchref06_Valid.f x166000_2 x166001_24).bind fun t168 => (if t168 = true then (some (x166000_2, x166001_24, true)) else (some (0, 0, false)))) else (some (0, 0, false)))) = some (r1, r2, r3) := by rw [if_pos rfl] at H; exact H
      clear H
      have H := H1
      clear H1
      replace H := Option.bind_eq_some_iff.mp H
      obtain ⟨t167, A430, H⟩ := H
      replace H : (if t167 = true then ((signalbenchref06_Valid.f x166000_2 x166001_24).bind fun t168 => (if t168 = true then (some (x166000_2, x166001_24, true)) else (some (0, 0, false)))) else (some (0, 0, false))) = some (r1, r2, r3) := H
      have A43 := Aside0.mk A430
      clear A430
      by_cases c44 : t167 = true
      ·
       subst c44
       have H1 : ((signalbenchref06_Valid.f x166000_2 x166001_24).bind fun t168 => (if t168 = true then (some (x166000_2, x166001_24, true)) else (some (0, 0, false)))) = some (r1, r2, r3) := by rw [if_pos rfl] at H; exact H
       clear H
       have H := H1
       clear H1
       replace H := Option.bind_eq_some_iff.mp H
       obtain ⟨t168, A450, H⟩ := H
       replace H : (if t168 = true then (some (x166000_2, x166001_24, true)) else (some (0, 0, false))) = some (r1, r2, r3) := H
       have A45 := Aside0.mk A450
       clear A450
       by_cases c46 : t168 = true
       ·
        subst c46
        have H1 : (some (x166000_2, x166001_24, true)) = some (r1, r2, r3) := by rw [if_pos rfl] at H; exact H
        clear H
        have H := H1
        clear H1
        simp only [Option.some.injEq, Prod.mk.injEq] at H
        obtain ⟨rfl, rfl, rfl⟩ := H
        have hnb47 := NB162_163.out
        have hnc47 := NB163_162.out
        have hnb48 := NB162_164.out
        have hnc48 := NB164_162.out
        have hnb49 := NB162_165.out
        have hnc49 := NB165_162.out
        obtain ⟨hcz50_0, hcz50_1⟩ := bc2 BK162.out
        obtain ⟨hfz50_0, hfz50_1⟩ := bf2 BK162.out
        go_wp2_with (first | ((with_reducible refine gate_callee (f := 17) rfl ?_); refine goesL_ (some 25) rfl rfl Try.func17 (by kernel_rfl) rfl #[.agg #[.int .i64 a0_0, .int .i64 a0_1]] rfl (by (try simp only [List.map_toArray, List.map_cons, List.map_nil]); first | done | rfl | (simp only [List.length_drop, List.length_take]; rfl)) ?_; (with_reducible refine (signalbenchref06_Valid.calls a0_0 a0_1 true _ A41.out).mono ?_); rintro e w51 ⟨rfl, hb⟩; refine ⟨_, rfl, ?_⟩; have n0_ := Aside0.mk (blk_below (bg BK162.out) hb); have n1_ := Aside0.mk (blk_below (bg BK163.out) hb); have n2_ := Aside0.mk (blk_below (bg BK164.out) hb); have n3_ := Aside0.mk (blk_below (bg BK165.out) hb); have n4_ := Aside0.mk (below_step (bs HB.out) hb); clear BK162; clear BK163; clear BK164; clear BK165; clear HB; have BK162 := n0_; have BK163 := n1_; have BK164 := n2_; have BK165 := n3_; have HB := n4_; clear n0_ n1_ n2_ n3_ n4_; (try clear hb); (try clear hb2); (try clear hk); (try clear hi); have hnb52 := NB163_164.out; have hnc52 := NB164_163.out; have hnb53 := NB163_165.out; have hnc53 := NB165_163.out; obtain ⟨hcz54_0, hcz54_1⟩ := bc2 BK163.out; obtain ⟨hfz54_0, hfz54_1⟩ := bf2 BK163.out) | (go_at_call 17; (with_reducible refine (signalbenchref06_Valid.calls a1_0 a1_1 true _ A43.out).mono ?_); rintro e w55 ⟨rfl, hb⟩; have n0_ := Aside0.mk (blk_below (bg BK162.out) hb); have n1_ := Aside0.mk (blk_below (bg BK163.out) hb); have n2_ := Aside0.mk (blk_below (bg BK164.out) hb); have n3_ := Aside0.mk (blk_below (bg BK165.out) hb); have n4_ := Aside0.mk (below_step (bs HB.out) hb); clear BK162; clear BK163; clear BK164; clear BK165; clear HB; have BK162 := n0_; have BK163 := n1_; have BK164 := n2_; have BK165 := n3_; have HB := n4_; clear n0_ n1_ n2_ n3_ n4_; (try clear hb); (try clear hb2); (try clear hk); (try clear hi); have hnb56 := NB165_164.out; have hnc56 := NB164_165.out; obtain ⟨hcz57_0, hcz57_1⟩ := bc2 BK165.out; obtain ⟨hfz57_0, hfz57_1⟩ := bf2 BK165.out) | (go_at_call 17; (with_reducible refine (signalbenchref06_Valid.calls x166000_2 x166001_24 true _ A45.out).mono ?_); rintro e w58 ⟨rfl, hb⟩; have n0_ := Aside0.mk (blk_below (bg BK162.out) hb); have n1_ := Aside0.mk (blk_below (bg BK163.out) hb); have n2_ := Aside0.mk (blk_below (bg BK164.out) hb); have n3_ := Aside0.mk (blk_below (bg BK165.out) hb); have n4_ := Aside0.mk (below_step (bs HB.out) hb); clear BK162; clear BK163; clear BK164; clear BK165; clear HB; have BK162 := n0_; have BK163 := n1_; have BK164 := n2_; have BK165 := n3_; have HB := n4_; clear n0_ n1_ n2_ n3_ n4_; (try clear hb); (try clear hb2); (try clear hk); (try clear hi); obtain ⟨hcz59_0, hcz59_1⟩ := bc2 BK165.out; obtain ⟨hfz59_0, hfz59_1⟩ := bf2 BK165.out; obtain ⟨hcz60_0, hcz60_1⟩ := bc2 BK164.out; obtain ⟨hfz60_0, hfz60_1⟩ := bf2 BK164.out))
        refine bodyPost_ret (results_ct rfl _ _ gb164 25 #[.int .i64 x166000_2, .int .i64 x166001_24] (0, 0) _ rfl (by exact pt2 (bg BK164.out)) Try.underlying25 rfl (by kernel_rfl)) rfl ?_
        exact ⟨by first | rfl | (simp [errW_none, errW_some] <;> rfl) | (simp [*, errW_none, errW_some] <;> rfl), bs HB.out⟩
       ·
        replace c46 := Bool.eq_false_iff.mpr c46
        subst c46
        have H1 : (some (0, 0, false)) = some (r1, r2, r3) := by rw [if_neg (show ¬ (false = true) by decide)] at H; exact H
        clear H
        have H := H1
        clear H1
        simp only [Option.some.injEq, Prod.mk.injEq] at H
        obtain ⟨rfl, rfl, rfl⟩ := H
        have hnb61 := NB162_163.out
        have hnc61 := NB163_162.out
        have hnb62 := NB162_164.out
        have hnc62 := NB164_162.out
        have hnb63 := NB162_165.out
        have hnc63 := NB165_162.out
        obtain ⟨hcz64_0, hcz64_1⟩ := bc2 BK162.out
        obtain ⟨hfz64_0, hfz64_1⟩ := bf2 BK162.out
        go_wp2_with (first | ((with_reducible refine gate_callee (f := 17) rfl ?_); refine goesL_ (some 25) rfl rfl Try.func17 (by kernel_rfl) rfl #[.agg #[.int .i64 a0_0, .int .i64 a0_1]] rfl (by (try simp only [List.map_toArray, List.map_cons, List.map_nil]); first | done | rfl | (simp only [List.length_drop, List.length_take]; rfl)) ?_; (with_reducible refine (signalbenchref06_Valid.calls a0_0 a0_1 true _ A41.out).mono ?_); rintro e w65 ⟨rfl, hb⟩; refine ⟨_, rfl, ?_⟩; have n0_ := Aside0.mk (blk_below (bg BK162.out) hb); have n1_ := Aside0.mk (blk_below (bg BK163.out) hb); have n2_ := Aside0.mk (blk_below (bg BK164.out) hb); have n3_ := Aside0.mk (blk_below (bg BK165.out) hb); have n4_ := Aside0.mk (below_step (bs HB.out) hb); clear BK162; clear BK163; clear BK164; clear BK165; clear HB; have BK162 := n0_; have BK163 := n1_; have BK164 := n2_; have BK165 := n3_; have HB := n4_; clear n0_ n1_ n2_ n3_ n4_; (try clear hb); (try clear hb2); (try clear hk); (try clear hi); have hnb66 := NB163_164.out; have hnc66 := NB164_163.out; have hnb67 := NB163_165.out; have hnc67 := NB165_163.out; obtain ⟨hcz68_0, hcz68_1⟩ := bc2 BK163.out; obtain ⟨hfz68_0, hfz68_1⟩ := bf2 BK163.out) | (go_at_call 17; (with_reducible refine (signalbenchref06_Valid.calls a1_0 a1_1 true _ A43.out).mono ?_); rintro e w69 ⟨rfl, hb⟩; have n0_ := Aside0.mk (blk_below (bg BK162.out) hb); have n1_ := Aside0.mk (blk_below (bg BK163.out) hb); have n2_ := Aside0.mk (blk_below (bg BK164.out) hb); have n3_ := Aside0.mk (blk_below (bg BK165.out) hb); have n4_ := Aside0.mk (below_step (bs HB.out) hb); clear BK162; clear BK163; clear BK164; clear BK165; clear HB; have BK162 := n0_; have BK163 := n1_; have BK164 := n2_; have BK165 := n3_; have HB := n4_; clear n0_ n1_ n2_ n3_ n4_; (try clear hb); (try clear hb2); (try clear hk); (try clear hi); have hnb70 := NB165_164.out; have hnc70 := NB164_165.out; obtain ⟨hcz71_0, hcz71_1⟩ := bc2 BK165.out; obtain ⟨hfz71_0, hfz71_1⟩ := bf2 BK165.out) | (go_at_call 17; (with_reducible refine (signalbenchref06_Valid.calls x166000_2 x166001_24 false _ A45.out).mono ?_); rintro e w72 ⟨rfl, hb⟩; have n0_ := Aside0.mk (blk_below (bg BK162.out) hb); have n1_ := Aside0.mk (blk_below (bg BK163.out) hb); have n2_ := Aside0.mk (blk_below (bg BK164.out) hb); have n3_ := Aside0.mk (blk_below (bg BK165.out) hb); have n4_ := Aside0.mk (below_step (bs HB.out) hb); clear BK162; clear BK163; clear BK164; clear BK165; clear HB; have BK162 := n0_; have BK163 := n1_; have BK164 := n2_; have BK165 := n3_; have HB := n4_; clear n0_ n1_ n2_ n3_ n4_; (try clear hb); (try clear hb2); (try clear hk); (try clear hi); obtain ⟨hcz73_0, hcz73_1⟩ := bc2 BK164.out; obtain ⟨hfz73_0, hfz73_1⟩ := bf2 BK164.out))
        refine bodyPost_ret (results_ct rfl _ _ gb164 25 #[.int .i64 0, .int .i64 0] (0, 0) _ rfl (by exact pt2 (bg BK164.out)) Try.underlying25 rfl (by kernel_rfl)) rfl ?_
        exact ⟨by first | rfl | (simp [errW_none, errW_some] <;> rfl) | (simp [*, errW_none, errW_some] <;> rfl), bs HB.out⟩
      ·
       replace c44 := Bool.eq_false_iff.mpr c44
       subst c44
       have H1 : (some (0, 0, false)) = some (r1, r2, r3) := by rw [if_neg (show ¬ (false = true) by decide)] at H; exact H
       clear H
       have H := H1
       clear H1
       simp only [Option.some.injEq, Prod.mk.injEq] at H
       obtain ⟨rfl, rfl, rfl⟩ := H
       have hnb74 := NB162_163.out
       have hnc74 := NB163_162.out
       have hnb75 := NB162_164.out
       have hnc75 := NB164_162.out
       have hnb76 := NB162_165.out
       have hnc76 := NB165_162.out
       obtain ⟨hcz77_0, hcz77_1⟩ := bc2 BK162.out
       obtain ⟨hfz77_0, hfz77_1⟩ := bf2 BK162.out
       go_wp2_with (first | ((with_reducible refine gate_callee (f := 17) rfl ?_); refine goesL_ (some 25) rfl rfl Try.func17 (by kernel_rfl) rfl #[.agg #[.int .i64 a0_0, .int .i64 a0_1]] rfl (by (try simp only [List.map_toArray, List.map_cons, List.map_nil]); first | done | rfl | (simp only [List.length_drop, List.length_take]; rfl)) ?_; (with_reducible refine (signalbenchref06_Valid.calls a0_0 a0_1 true _ A41.out).mono ?_); rintro e w78 ⟨rfl, hb⟩; refine ⟨_, rfl, ?_⟩; have n0_ := Aside0.mk (blk_below (bg BK162.out) hb); have n1_ := Aside0.mk (blk_below (bg BK163.out) hb); have n2_ := Aside0.mk (blk_below (bg BK164.out) hb); have n3_ := Aside0.mk (blk_below (bg BK165.out) hb); have n4_ := Aside0.mk (below_step (bs HB.out) hb); clear BK162; clear BK163; clear BK164; clear BK165; clear HB; have BK162 := n0_; have BK163 := n1_; have BK164 := n2_; have BK165 := n3_; have HB := n4_; clear n0_ n1_ n2_ n3_ n4_; (try clear hb); (try clear hb2); (try clear hk); (try clear hi); have hnb79 := NB163_164.out; have hnc79 := NB164_163.out; have hnb80 := NB163_165.out; have hnc80 := NB165_163.out; obtain ⟨hcz81_0, hcz81_1⟩ := bc2 BK163.out; obtain ⟨hfz81_0, hfz81_1⟩ := bf2 BK163.out) | (go_at_call 17; (with_reducible refine (signalbenchref06_Valid.calls a1_0 a1_1 false _ A43.out).mono ?_); rintro e w82 ⟨rfl, hb⟩; have n0_ := Aside0.mk (blk_below (bg BK162.out) hb); have n1_ := Aside0.mk (blk_below (bg BK163.out) hb); have n2_ := Aside0.mk (blk_below (bg BK164.out) hb); have n3_ := Aside0.mk (blk_below (bg BK165.out) hb); have n4_ := Aside0.mk (below_step (bs HB.out) hb); clear BK162; clear BK163; clear BK164; clear BK165; clear HB; have BK162 := n0_; have BK163 := n1_; have BK164 := n2_; have BK165 := n3_; have HB := n4_; clear n0_ n1_ n2_ n3_ n4_; (try clear hb); (try clear hb2); (try clear hk); (try clear hi); have hnb83 := NB164_165.out; have hnc83 := NB165_164.out; obtain ⟨hcz84_0, hcz84_1⟩ := bc2 BK164.out; obtain ⟨hfz84_0, hfz84_1⟩ := bf2 BK164.out))
       refine bodyPost_ret (results_ct rfl _ _ gb164 25 #[.int .i64 0, .int .i64 0] (0, 0) _ rfl (by exact pt2 (bg BK164.out)) Try.underlying25 rfl (by kernel_rfl)) rfl ?_
       exact ⟨by first | rfl | (simp [errW_none, errW_some] <;> rfl) | (simp [*, errW_none, errW_some] <;> rfl), bs HB.out⟩
     ·
      replace c42 := Bool.eq_false_iff.mpr c42
      subst c42
      have H1 : (some (0, 0, false)) = some (r1, r2, r3) := by rw [if_neg (show ¬ (false = true) by decide)] at H; exact H
      clear H
      have H := H1
      clear H1
      simp only [Option.some.injEq, Prod.mk.injEq] at H
      obtain ⟨rfl, rfl, rfl⟩ := H
      have hnb85 := NB162_163.out
      have hnc85 := NB163_162.out
      have hnb86 := NB162_164.out
      have hnc86 := NB164_162.out
      have hnb87 := NB162_165.out
      have hnc87 := NB165_162.out
      obtain ⟨hcz88_0, hcz88_1⟩ := bc2 BK162.out
      obtain ⟨hfz88_0, hfz88_1⟩ := bf2 BK162.out
      go_wp2_with (first | ((with_reducible refine gate_callee (f := 17) rfl ?_); refine goesL_ (some 25) rfl rfl Try.func17 (by kernel_rfl) rfl #[.agg #[.int .i64 a0_0, .int .i64 a0_1]] rfl (by (try simp only [List.map_toArray, List.map_cons, List.map_nil]); first | done | rfl | (simp only [List.length_drop, List.length_take]; rfl)) ?_; (with_reducible refine (signalbenchref06_Valid.calls a0_0 a0_1 false _ A41.out).mono ?_); rintro e w89 ⟨rfl, hb⟩; refine ⟨_, rfl, ?_⟩; have n0_ := Aside0.mk (blk_below (bg BK162.out) hb); have n1_ := Aside0.mk (blk_below (bg BK163.out) hb); have n2_ := Aside0.mk (blk_below (bg BK164.out) hb); have n3_ := Aside0.mk (blk_below (bg BK165.out) hb); have n4_ := Aside0.mk (below_step (bs HB.out) hb); clear BK162; clear BK163; clear BK164; clear BK165; clear HB; have BK162 := n0_; have BK163 := n1_; have BK164 := n2_; have BK165 := n3_; have HB := n4_; clear n0_ n1_ n2_ n3_ n4_; (try clear hb); (try clear hb2); (try clear hk); (try clear hi); have hnb90 := NB164_163.out; have hnc90 := NB163_164.out; have hnb91 := NB164_165.out; have hnc91 := NB165_164.out; obtain ⟨hcz92_0, hcz92_1⟩ := bc2 BK164.out; obtain ⟨hfz92_0, hfz92_1⟩ := bf2 BK164.out))
      refine bodyPost_ret (results_ct rfl _ _ gb164 25 #[.int .i64 0, .int .i64 0] (0, 0) _ rfl (by exact pt2 (bg BK164.out)) Try.underlying25 rfl (by kernel_rfl)) rfl ?_
      exact ⟨by first | rfl | (simp [errW_none, errW_some] <;> rfl) | (simp [*, errW_none, errW_some] <;> rfl), bs HB.out⟩

end Go.Proofs.Ytejmegaalfblmaa.H
