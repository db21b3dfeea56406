-- Printed by wip/hprint.py (this project's own driver of the kit's print) out of the translation; Lean checks it.
import Derived.Test.YtgdjiphljadlcaaH0
import Derived.Test.YtgdjiphljadlcaaH28
import Derived.Test.YtgdjiphljadlcaaH29
namespace Go.Proofs.Ytgdjiphljadlcaa.H
open Go.RowKit Go.Proofs.YtgdjiphljadlcaaW.PrintWords Go.Proofs.YtgdjiphljadlcaaW.PrintLast Go.Proofs.YtgdjiphljadlcaaW.PrintMore
attribute [local go_sem] max2_int min2_int max_two min_two max_three min_three max_four min_four   -- for this text's walks alone
set_option linter.unusedVariables false
set_option linter.unusedSimpArgs false

/-! ### signalbenchlaw44_TrigautoCompares: function 7 -/
mutual
def signalbenchlaw44_TrigautoCompares.l0 : Nat → Int → Int → Int → Int → Int → Int → Int → Int → Int → Int → Int → Int → Int → Int → ByteArray → Int → Int → Int → Int → Int → Int → Int → Int → Int → Int → Int → Option (Bool)
 | 0, _, _, _, _, _, _, _, _, _, _, _, _, _, _, _, _, _, _, _, _, _, _, _, _, _, _ => none
 | k + 1, x6, x8, x332000, x332001, x332002, x332003, x332004, x333000, x333001, x333002, x333003, x333004, x333005, x333006, x333007, x333008, x334000, x334001, x334002, x334003, x334004, x335000, x335001, x335002, x335003, x335004 => if x8 ≤ 4 then (if x8 = 2 then (signalbenchlaw44_TrigautoCompares.l0 k x6 (wrap64 (x8 + 1)) x332000 x332001 x332002 x332003 x332004 x333000 x333001 x333002 x333003 x333004 x333005 x333006 x333007 x333008 x334000 x334001 x334002 x334003 x334004 x335000 x335001 x335002 x8 x335004) else ((trigauto_Holds.f k x335000 x335001 x335002 x8 x335004 x333000 x333001 x333002 x333003 x333004 x333005 x333006 x333007 x333008).bind fun t335 => (if t335 = true then (signalbenchlaw44_TrigautoCompares.l0 k (wrap64 (x6 + 1)) (wrap64 (x8 + 1)) x332000 x332001 x332002 x332003 x332004 x333000 x333001 x333002 x333003 x333004 x333005 x333006 x333007 x333008 x334000 x334001 x334002 x334003 x334004 x335000 x335001 x335002 x8 x335004) else (signalbenchlaw44_TrigautoCompares.l0 k x6 (wrap64 (x8 + 1)) x332000 x332001 x332002 x332003 x332004 x333000 x333001 x333002 x333003 x333004 x333005 x333006 x333007 x333008 x334000 x334001 x334002 x334003 x334004 x335000 x335001 x335002 x8 x335004)))) else ((trigauto_Holds.f k x335000 x335001 x335002 1 x335004 x333000 x333001 x333002 x333003 x333004 x333005 x333006 x333007 x333008).bind fun t336 => ((trigauto_Holds.f k x335000 x335001 x335002 2 x335004 x333000 x333001 x333002 x333003 x333004 x333005 x333006 x333007 x333008).bind fun t337 => ((trigauto_Holds.f k x334000 x334001 x334002 x334003 x334004 x333000 x333001 x333002 x333003 x333004 x333005 x333006 x333007 x333008).bind fun t338 => (if t338 = true then (if x332002 < 1 then (signalbenchlaw44_TrigautoCompares.j1 k x6 t336 t337 true) else (if x332002 > 6 then (signalbenchlaw44_TrigautoCompares.j1 k x6 t336 t337 true) else (if x332004 < (-9007199254740992) then (signalbenchlaw44_TrigautoCompares.j1 k x6 t336 t337 true) else (signalbenchlaw44_TrigautoCompares.j1 k x6 t336 t337 (decide (x332004 > 9007199254740992)))))) else (signalbenchlaw44_TrigautoCompares.j1 k x6 t336 t337 true)))))
def signalbenchlaw44_TrigautoCompares.j1 : Nat → Int → Bool → Bool → Bool → Option (Bool)
 | 0, _, _, _, _ => none
 | k + 1, x6, x9, x10, x63 => if x63 = true then (if x6 = 0 then (if x9 = true then (some false) else (if x10 = true then (some false) else ((signalbenchlaw44_awake.f).bind fun t339 => (some t339)))) else (some false)) else (if x6 = 1 then (if (x9 != x10) = true then ((signalbenchlaw44_awake.f).bind fun t340 => (some t340)) else (some false)) else (some false))
end
def signalbenchlaw44_TrigautoCompares.f (k : Nat) (a0_0 : Int) (a0_1 : Int) (a0_2 : Int) (a0_3 : Int) (a0_4 : Int) (a1_0 : Int) (a1_1 : Int) (a1_2 : Int) (a1_3 : Int) (a1_4 : Int) (a1_5 : Int) (a1_6 : Int) (a1_7 : ByteArray) (a1_8 : Int) : Option (Bool) := signalbenchlaw44_TrigautoCompares.l0 k 0 1 a0_0 a0_1 a0_2 a0_3 a0_4 a1_0 a1_1 a1_2 a1_3 a1_4 a1_5 a1_6 a1_7 a1_8 a0_0 a0_1 0 0 0 a0_0 a0_1 a0_2 a0_3 a0_4
set_option maxHeartbeats 8000000 in
set_option maxRecDepth 100000 in
theorem signalbenchlaw44_TrigautoCompares.calls (k : Nat) (a0_0 : Int) (a0_1 : Int) (a0_2 : Int) (a0_3 : Int) (a0_4 : Int) (a1_0 : Int) (a1_1 : Int) (a1_2 : Int) (a1_3 : Int) (a1_4 : Int) (a1_5 : Int) (a1_6 : Int) (a1_7 : ByteArray) (a1_8 : Int) (r : Bool) (w : World) (h : signalbenchlaw44_TrigautoCompares.f k a0_0 a0_1 a0_2 a0_3 a0_4 a1_0 a1_1 a1_2 a1_3 a1_4 a1_5 a1_6 a1_7 a1_8 = some r) :
  Calls Try.prog 7 #[.agg #[.int .i64 a0_0, .int .i64 a0_1, .int .i64 a0_2, .int .i64 a0_3, .int .i64 a0_4], .agg #[.int .i64 a1_0, .int .i64 a1_1, .int .i64 a1_2, .int .i64 a1_3, .int .i64 a1_4, .int .i64 a1_5, .int .i64 a1_6, .string a1_7, .int .i64 a1_8]] w fun e w' => e = .returned (.bool r) ∧ Below w.heap.size w w' := by
 have hu42 := Try.underlying42
 have hu46 := Try.underlying46
 have HB := Aside0.mk (Below.refl w.heap.size w)
 have H : (signalbenchlaw44_TrigautoCompares.l0 k 0 1 a0_0 a0_1 a0_2 a0_3 a0_4 a1_0 a1_1 a1_2 a1_3 a1_4 a1_5 a1_6 a1_7 a1_8 a0_0 a0_1 0 0 0 a0_0 a0_1 a0_2 a0_3 a0_4) = some r := h
 clear h
 have H' := Aside0.mk H
 clear H
 go_enter Try.func7, Try.ntmps7
 go_wp2_with (first | ((with_reducible refine gate_dst (N := 2) rfl ?_); refine box_event ?hg (N := 2) ?hd (cs := #[.int .i64 a0_0, .int .i64 a0_1, .int .i64 a0_2, .int .i64 a0_3, .int .i64 a0_4]) (t := 42) ?hr ?_; (case hd => rfl); (case hg => rfl); (case hr => first | (go_simp; done) | (go_simp; rfl)); intro gb331 hg w3 hbox hb; have n0_ := Aside0.mk (below_step (bs HB.out) hb); have n1_ := Aside0.mk (hbox); have n2_ := Aside0.mk ((by rw [hg]; exact (below_size (bs HB.out)) : w.heap.size ≤ gb331)); have n3_ := n2_; clear HB; have HB := n0_; have BK331 := n1_; have GW331 := n2_; have GE331 := n3_; clear n0_ n1_ n2_ n3_; clear hb hbox hg) | ((with_reducible refine gate_dst (N := 3) rfl ?_); refine box_event ?hg (N := 3) ?hd (cs := #[.int .i64 a1_0, .int .i64 a1_1, .int .i64 a1_2, .int .i64 a1_3, .int .i64 a1_4, .int .i64 a1_5, .int .i64 a1_6, .string a1_7, .int .i64 a1_8]) (t := 46) ?hr ?_; (case hd => rfl); (case hg => rfl); (case hr => first | (go_simp; done) | (go_simp; rfl)); intro gb332 hg w4 hbox hb; have n0_ := Aside0.mk (blk_below (bg BK331.out) hb); have n1_ := Aside0.mk (below_step (bs HB.out) hb); have n2_ := Aside0.mk (hbox); have n3_ := Aside0.mk ((by rw [hg]; exact (below_size (bs HB.out)) : w.heap.size ≤ gb332)); have n4_ := n3_; have n5_ := Aside0.mk ((by rw [hg]; exact Nat.ne_of_lt (blk_lt (bg BK331.out)) : gb331 ≠ gb332)); have n6_ := Aside0.mk ((by rw [hg]; exact Nat.ne_of_gt (blk_lt (bg BK331.out)) : gb332 ≠ gb331)); clear BK331; clear HB; have BK331 := n0_; have HB := n1_; have BK332 := n2_; have GW332 := n3_; have GE332 := n4_; have NB331_332 := n5_; have NB332_331 := n6_; clear n0_ n1_ n2_ n3_ n4_ n5_ n6_; clear hb hbox hg; have hnb5 := NB331_332.out; have hnc5 := NB332_331.out; obtain ⟨hcz6_0, hcz6_1, hcz6_2, hcz6_3, hcz6_4⟩ := bc5 BK331.out; obtain ⟨hfz6_0, hfz6_1, hfz6_2, hfz6_3, hfz6_4⟩ := bf5 BK331.out) | ((with_reducible refine gate_dst (N := 5) rfl ?_); refine box_event ?hg (N := 5) ?hd (cs := #[.int .i64 0, .int .i64 0, .int .i64 0, .int .i64 0, .int .i64 0]) (t := 42) ?hr ?_; (case hd => rfl); (case hg => rfl); (case hr => first | (go_simp; done) | (go_simp; rfl)); intro gb333 hg w7 hbox hb; have n0_ := Aside0.mk (blk_below (bg BK331.out) hb); have n1_ := Aside0.mk (blk_below (bg BK332.out) hb); have n2_ := Aside0.mk (below_step (bs HB.out) hb); have n3_ := Aside0.mk (hbox); have n4_ := Aside0.mk ((by rw [hg]; exact (below_size (bs HB.out)) : w.heap.size ≤ gb333)); have n5_ := n4_; have n6_ := Aside0.mk ((by rw [hg]; exact Nat.ne_of_lt (blk_lt (bg BK331.out)) : gb331 ≠ gb333)); have n7_ := Aside0.mk ((by rw [hg]; exact Nat.ne_of_gt (blk_lt (bg BK331.out)) : gb333 ≠ gb331)); have n8_ := Aside0.mk ((by rw [hg]; exact Nat.ne_of_lt (blk_lt (bg BK332.out)) : gb332 ≠ gb333)); have n9_ := Aside0.mk ((by rw [hg]; exact Nat.ne_of_gt (blk_lt (bg BK332.out)) : gb333 ≠ gb332)); clear BK331; clear BK332; clear HB; have BK331 := n0_; have BK332 := n1_; have HB := n2_; have BK333 := n3_; have GW333 := n4_; have GE333 := n5_; have NB331_333 := n6_; have NB333_331 := n7_; have NB332_333 := n8_; have NB333_332 := n9_; clear n0_ n1_ n2_ n3_ n4_ n5_ n6_ n7_ n8_ n9_; clear hb hbox hg; have hnb8 := NB333_331.out; have hnc8 := NB331_333.out; have hnb9 := NB333_332.out; have hnc9 := NB332_333.out; obtain ⟨hcz10_0, hcz10_1, hcz10_2, hcz10_3, hcz10_4⟩ := bc5 BK333.out; obtain ⟨hfz10_0, hfz10_1, hfz10_2, hfz10_3, hfz10_4⟩ := bf5 BK333.out; obtain ⟨hcz11_0, hcz11_1, hcz11_2, hcz11_3, hcz11_4⟩ := bc5 BK331.out; obtain ⟨hfz11_0, hfz11_1, hfz11_2, hfz11_3, hfz11_4⟩ := bf5 BK331.out) | ((with_reducible refine gate_dst (N := 7) rfl ?_); refine box_event ?hg (N := 7) ?hd (cs := #[.int .i64 0, .int .i64 0, .int .i64 0, .int .i64 0, .int .i64 0]) (t := 42) ?hr ?_; (case hd => rfl); (case hg => rfl); (case hr => first | (go_simp; done) | (go_simp; rfl)); intro gb334 hg w12 hbox hb; have n0_ := Aside0.mk (blk_below (g := gb331) (o := .cells #[.int .i64 a0_0, .int .i64 a0_1, .int .i64 a0_2, .int .i64 a0_3, .int .i64 a0_4] 42 (0, 0)) (by (iterate 5 (with_reducible repeat (first | refine blk_drewN ?_ _ | refine blk_drew ?_ | refine blk_alloc ?_ _)); refine blk_far ?_ NB331_333.out _); exact bg BK331.out) hb); have n1_ := Aside0.mk (blk_below (g := gb332) (o := .cells #[.int .i64 a1_0, .int .i64 a1_1, .int .i64 a1_2, .int .i64 a1_3, .int .i64 a1_4, .int .i64 a1_5, .int .i64 a1_6, .string a1_7, .int .i64 a1_8] 46 (0, 0)) (by (iterate 5 (with_reducible repeat (first | refine blk_drewN ?_ _ | refine blk_drew ?_ | refine blk_alloc ?_ _)); refine blk_far ?_ NB332_333.out _); exact bg BK332.out) hb); have n2_ := Aside0.mk (blk_below (g := gb333) (o := .cells #[.int .i64 a0_0, .int .i64 a0_1, .int .i64 0, .int .i64 0, .int .i64 0] 42 (0, 0)) (by exact pt5 (bg BK333.out)) hb); have n3_ := Aside0.mk (below_step (bs HB.out) hb); have n4_ := Aside0.mk (hbox); have n5_ := Aside0.mk ((by rw [hg]; exact (below_size (bs HB.out)) : w.heap.size ≤ gb334)); have n6_ := n5_; have n7_ := Aside0.mk ((by rw [hg]; exact Nat.ne_of_lt (blk_lt (g := gb331) (o := .cells #[.int .i64 a0_0, .int .i64 a0_1, .int .i64 a0_2, .int .i64 a0_3, .int .i64 a0_4] 42 (0, 0)) (by (iterate 5 (with_reducible repeat (first | refine blk_drewN ?_ _ | refine blk_drew ?_ | refine blk_alloc ?_ _)); refine blk_far ?_ NB331_333.out _); exact bg BK331.out)) : gb331 ≠ gb334)); have n8_ := Aside0.mk ((by rw [hg]; exact Nat.ne_of_gt (blk_lt (g := gb331) (o := .cells #[.int .i64 a0_0, .int .i64 a0_1, .int .i64 a0_2, .int .i64 a0_3, .int .i64 a0_4] 42 (0, 0)) (by (iterate 5 (with_reducible repeat (first | refine blk_drewN ?_ _ | refine blk_drew ?_ | refine blk_alloc ?_ _)); refine blk_far ?_ NB331_333.out _); exact bg BK331.out)) : gb334 ≠ gb331)); have n9_ := Aside0.mk ((by rw [hg]; exact Nat.ne_of_lt (blk_lt (g := gb332) (o := .cells #[.int .i64 a1_0, .int .i64 a1_1, .int .i64 a1_2, .int .i64 a1_3, .int .i64 a1_4, .int .i64 a1_5, .int .i64 a1_6, .string a1_7, .int .i64 a1_8] 46 (0, 0)) (by (iterate 5 (with_reducible repeat (first | refine blk_drewN ?_ _ | refine blk_drew ?_ | refine blk_alloc ?_ _)); refine blk_far ?_ NB332_333.out _); exact bg BK332.out)) : gb332 ≠ gb334)); have n10_ := Aside0.mk ((by rw [hg]; exact Nat.ne_of_gt (blk_lt (g := gb332) (o := .cells #[.int .i64 a1_0, .int .i64 a1_1, .int .i64 a1_2, .int .i64 a1_3, .int .i64 a1_4, .int .i64 a1_5, .int .i64 a1_6, .string a1_7, .int .i64 a1_8] 46 (0, 0)) (by (iterate 5 (with_reducible repeat (first | refine blk_drewN ?_ _ | refine blk_drew ?_ | refine blk_alloc ?_ _)); refine blk_far ?_ NB332_333.out _); exact bg BK332.out)) : gb334 ≠ gb332)); have n11_ := Aside0.mk ((by rw [hg]; exact Nat.ne_of_lt (blk_lt (g := gb333) (o := .cells #[.int .i64 a0_0, .int .i64 a0_1, .int .i64 0, .int .i64 0, .int .i64 0] 42 (0, 0)) (by exact pt5 (bg BK333.out))) : gb333 ≠ gb334)); have n12_ := Aside0.mk ((by rw [hg]; exact Nat.ne_of_gt (blk_lt (g := gb333) (o := .cells #[.int .i64 a0_0, .int .i64 a0_1, .int .i64 0, .int .i64 0, .int .i64 0] 42 (0, 0)) (by exact pt5 (bg BK333.out))) : gb334 ≠ gb333)); clear BK331; clear BK332; clear BK333; clear HB; have BK331 := n0_; have BK332 := n1_; have BK333 := n2_; have HB := n3_; have BK334 := n4_; have GW334 := n5_; have GE334 := n6_; have NB331_334 := n7_; have NB334_331 := n8_; have NB332_334 := n9_; have NB334_332 := n10_; have NB333_334 := n11_; have NB334_333 := n12_; clear n0_ n1_ n2_ n3_ n4_ n5_ n6_ n7_ n8_ n9_ n10_ n11_ n12_; clear hb hbox hg; have hnb13 := NB334_331.out; have hnc13 := NB331_334.out; have hnb14 := NB334_332.out; have hnc14 := NB332_334.out; have hnb15 := NB334_333.out; have hnc15 := NB333_334.out; obtain ⟨hcz16_0, hcz16_1, hcz16_2, hcz16_3, hcz16_4⟩ := bc5 BK334.out; obtain ⟨hfz16_0, hfz16_1, hfz16_2, hfz16_3, hfz16_4⟩ := bf5 BK334.out))
 go_loopg [6, 8] k (fun kq v6 v8 w' => ∃ (x6_1 : Int) (x8_1 : Int) (x335003_1 : Int), v6 = .int .i64 x6_1 ∧ v8 = .int .i64 x8_1 ∧ Aside0 (signalbenchlaw44_TrigautoCompares.l0 kq x6_1 x8_1 a0_0 a0_1 a0_2 a0_3 a0_4 a1_0 a1_1 a1_2 a1_3 a1_4 a1_5 a1_6 a1_7 a1_8 a0_0 a0_1 0 0 0 a0_0 a0_1 a0_2 x335003_1 a0_4 = some r) ∧ Aside0 (kq ≤ k) ∧ Aside0 (w'.heap[gb331]? = some (.cells #[.int .i64 a0_0, .int .i64 a0_1, .int .i64 a0_2, .int .i64 a0_3, .int .i64 a0_4] 42 (0, 0))) ∧ Aside0 (w'.heap[gb332]? = some (.cells #[.int .i64 a1_0, .int .i64 a1_1, .int .i64 a1_2, .int .i64 a1_3, .int .i64 a1_4, .int .i64 a1_5, .int .i64 a1_6, .string a1_7, .int .i64 a1_8] 46 (0, 0))) ∧ Aside0 (w'.heap[gb333]? = some (.cells #[.int .i64 a0_0, .int .i64 a0_1, .int .i64 0, .int .i64 0, .int .i64 0] 42 (0, 0))) ∧ Aside0 (w'.heap[gb334]? = some (.cells #[.int .i64 a0_0, .int .i64 a0_1, .int .i64 a0_2, .int .i64 x335003_1, .int .i64 a0_4] 42 (0, 0))) ∧ Aside0 (Below w.heap.size w w'))
 case atStart => exact ⟨(0), (1), (a0_3), (by first | rfl | (simp; done) | (simp [*]; done)), (by first | rfl | (simp; done) | (simp [*]; done)), H', ⟨Nat.le_refl _⟩, ⟨by (iterate 5 (with_reducible repeat (first | refine blk_drewN ?_ _ | refine blk_drew ?_ | refine blk_alloc ?_ _)); refine blk_far ?_ NB331_334.out _); exact bg BK331.out⟩, ⟨by (iterate 5 (with_reducible repeat (first | refine blk_drewN ?_ _ | refine blk_drew ?_ | refine blk_alloc ?_ _)); refine blk_far ?_ NB332_334.out _); exact bg BK332.out⟩, ⟨by (iterate 5 (with_reducible repeat (first | refine blk_drewN ?_ _ | refine blk_drew ?_ | refine blk_alloc ?_ _)); refine blk_far ?_ NB333_334.out _); exact bg BK333.out⟩, ⟨by exact pt5 (bg BK334.out)⟩, ⟨bs HB.out⟩⟩
 case round =>
  clear H'
  try clear c1
  try clear p2
  try clear c5
  try clear c7
  try clear c8
  try clear c9
  try clear c13
  try clear c14
  try clear c15
  try clear hcz10_0 hcz10_1 hcz10_2 hcz10_3 hcz10_4
  try clear hcz11_0 hcz11_1 hcz11_2 hcz11_3 hcz11_4
  try clear hcz16_0 hcz16_1 hcz16_2 hcz16_3 hcz16_4
  try clear hcz6_0 hcz6_1 hcz6_2 hcz6_3 hcz6_4
  try clear hfz10_0 hfz10_1 hfz10_2 hfz10_3 hfz10_4
  try clear hfz11_0 hfz11_1 hfz11_2 hfz11_3 hfz11_4
  try clear hfz16_0 hfz16_1 hfz16_2 hfz16_3 hfz16_4
  try clear hfz6_0 hfz6_1 hfz6_2 hfz6_3 hfz6_4
  obtain ⟨x6_1, x8_1, x335003_1, rfl, rfl, HA, HK1, BK331, BK332, BK333, BK334, HB⟩ := hrel
  cases gk with
  | zero => exact absurd HA.out (by simp [signalbenchlaw44_TrigautoCompares.l0])
  | succ k1 =>
   have H := HA.out
   clear HA
   simp only [signalbenchlaw44_TrigautoCompares.l0] at H
   by_cases c17 : x8_1 ≤ 4
   ·
    rw [if_pos c17] at H
    have c17b0 : decide (x8_1 ≤ 4) = true := decide_eq_true c17
    clear c17
    by_cases c18 : x8_1 = 2
    ·
     rw [if_pos c18] at H
     have c18b0 : (x8_1 == 2) = true := beq_iff_eq.mpr c18
     have c18b1 : (x8_1 != 2) = false := bne_eq_false_iff_eq.mpr c18
     clear c18
     have H' := Aside0.mk H
     clear H
     have hnb19 := NB334_331.out
     have hnc19 := NB331_334.out
     have hnb20 := NB334_332.out
     have hnc20 := NB332_334.out
     have hnb21 := NB334_333.out
     have hnc21 := NB333_334.out
     obtain ⟨hcz22_0, hcz22_1, hcz22_2, hcz22_3, hcz22_4⟩ := bc5 BK334.out
     obtain ⟨hfz22_0, hfz22_1, hfz22_2, hfz22_3, hfz22_4⟩ := bf5 BK334.out
     go_wp2
     go_roundg k1
     case measure => have := HK1.out; omega
     case rel => exact ⟨(x6_1), (wrap64 (x8_1 + 1)), (x8_1), (by first | rfl | (simp; done) | (simp [*]; done)), (by first | rfl | (simp; done) | (simp [*]; done)), H', ⟨by have := HK1.out; omega⟩, ⟨by (with_reducible repeat (first | refine blk_drewN ?_ _ | refine blk_drew ?_ | refine blk_alloc ?_ _)); refine blk_far ?_ NB331_334.out _; exact bg BK331.out⟩, ⟨by (with_reducible repeat (first | refine blk_drewN ?_ _ | refine blk_drew ?_ | refine blk_alloc ?_ _)); refine blk_far ?_ NB332_334.out _; exact bg BK332.out⟩, ⟨by (with_reducible repeat (first | refine blk_drewN ?_ _ | refine blk_drew ?_ | refine blk_alloc ?_ _)); refine blk_far ?_ NB333_334.out _; exact bg BK333.out⟩, ⟨by (with_reducible repeat (first | refine blk_drewN ?_ _ | refine blk_drew ?_ | refine blk_alloc ?_ _)); refine blk_put (cs := #[.int .i64 a0_0, .int .i64 a0_1, .int .i64 a0_2, .int .i64 x335003_1, .int .i64 a0_4]) ?_ 3 _ rfl; exact bg BK334.out⟩, ⟨bs HB.out⟩⟩
    ·
     rw [if_neg c18] at H
     have c18b0 : (x8_1 == 2) = false := beq_eq_false_iff_ne.mpr c18
     have c18b1 : (x8_1 != 2) = true := bne_iff_ne.mpr c18
     replace H := Option.bind_eq_some_iff.mp H
     obtain ⟨t335, A230, H⟩ := H
     replace H : (if t335 = true then (signalbenchlaw44_TrigautoCompares.l0 k1 (wrap64 (x6_1 + 1)) (wrap64 (x8_1 + 1)) a0_0 a0_1 a0_2 a0_3 a0_4 a1_0 a1_1 a1_2 a1_3 a1_4 a1_5 a1_6 a1_7 a1_8 a0_0 a0_1 0 0 0 a0_0 a0_1 a0_2 x8_1 a0_4) else (signalbenchlaw44_TrigautoCompares.l0 k1 x6_1 (wrap64 (x8_1 + 1)) a0_0 a0_1 a0_2 a0_3 a0_4 a1_0 a1_1 a1_2 a1_3 a1_4 a1_5 a1_6 a1_7 a1_8 a0_0 a0_1 0 0 0 a0_0 a0_1 a0_2 x8_1 a0_4)) = some r := H
     have A23 := Aside0.mk A230
     clear A230
     by_cases c24 : t335 = true
     ·
      subst c24
      have H1 : (signalbenchlaw44_TrigautoCompares.l0 k1 (wrap64 (x6_1 + 1)) (wrap64 (x8_1 + 1)) a0_0 a0_1 a0_2 a0_3 a0_4 a1_0 a1_1 a1_2 a1_3 a1_4 a1_5 a1_6 a1_7 a1_8 a0_0 a0_1 0 0 0 a0_0 a0_1 a0_2 x8_1 a0_4) = some r := by rw [if_pos rfl] at H; exact H
      clear H
      have H := H1
      clear H1
      have H' := Aside0.mk H
      clear H
      have hnb25 := NB334_331.out
      have hnc25 := NB331_334.out
      have hnb26 := NB334_332.out
      have hnc26 := NB332_334.out
      have hnb27 := NB334_333.out
      have hnc27 := NB333_334.out
      obtain ⟨hcz28_0, hcz28_1, hcz28_2, hcz28_3, hcz28_4⟩ := bc5 BK334.out
      obtain ⟨hfz28_0, hfz28_1, hfz28_2, hfz28_3, hfz28_4⟩ := bf5 BK334.out
      have hnb29 := NB332_331.out
      have hnc29 := NB331_332.out
      have hnb30 := NB332_333.out
      have hnc30 := NB333_332.out
      obtain ⟨hcz31_0, hcz31_1, hcz31_2, hcz31_3, hcz31_4, hcz31_5, hcz31_6, hcz31_7, hcz31_8⟩ := bc9 BK332.out
      obtain ⟨hfz31_0, hfz31_1, hfz31_2, hfz31_3, hfz31_4, hfz31_5, hfz31_6, hfz31_7, hfz31_8⟩ := bf9 BK332.out
      go_wp2_with (first | (go_at_call 23; (with_reducible refine (trigauto_Holds.calls k1 a0_0 a0_1 a0_2 x8_1 a0_4 a1_0 a1_1 a1_2 a1_3 a1_4 a1_5 a1_6 a1_7 a1_8 true _ A23.out).mono ?_); rintro e w32 ⟨rfl, hb⟩; have n0_ := Aside0.mk (blk_below (g := gb331) (o := .cells #[.int .i64 a0_0, .int .i64 a0_1, .int .i64 a0_2, .int .i64 a0_3, .int .i64 a0_4] 42 (0, 0)) (by (with_reducible repeat (first | refine blk_drewN ?_ _ | refine blk_drew ?_ | refine blk_alloc ?_ _)); refine blk_far ?_ NB331_334.out _; exact bg BK331.out) hb); have n1_ := Aside0.mk (blk_below (g := gb332) (o := .cells #[.int .i64 a1_0, .int .i64 a1_1, .int .i64 a1_2, .int .i64 a1_3, .int .i64 a1_4, .int .i64 a1_5, .int .i64 a1_6, .string a1_7, .int .i64 a1_8] 46 (0, 0)) (by (with_reducible repeat (first | refine blk_drewN ?_ _ | refine blk_drew ?_ | refine blk_alloc ?_ _)); refine blk_far ?_ NB332_334.out _; exact bg BK332.out) hb); have n2_ := Aside0.mk (blk_below (g := gb333) (o := .cells #[.int .i64 a0_0, .int .i64 a0_1, .int .i64 0, .int .i64 0, .int .i64 0] 42 (0, 0)) (by (with_reducible repeat (first | refine blk_drewN ?_ _ | refine blk_drew ?_ | refine blk_alloc ?_ _)); refine blk_far ?_ NB333_334.out _; exact bg BK333.out) hb); have n3_ := Aside0.mk (blk_below (g := gb334) (o := .cells #[.int .i64 a0_0, .int .i64 a0_1, .int .i64 a0_2, .int .i64 x8_1, .int .i64 a0_4] 42 (0, 0)) (by (with_reducible repeat (first | refine blk_drewN ?_ _ | refine blk_drew ?_ | refine blk_alloc ?_ _)); refine blk_put (cs := #[.int .i64 a0_0, .int .i64 a0_1, .int .i64 a0_2, .int .i64 x335003_1, .int .i64 a0_4]) ?_ 3 _ rfl; exact bg BK334.out) hb); have n4_ := Aside0.mk (below_step (bs HB.out) hb); clear BK331; clear BK332; clear BK333; clear BK334; clear HB; have BK331 := n0_; have BK332 := n1_; have BK333 := n2_; have BK334 := n3_; have HB := n4_; clear n0_ n1_ n2_ n3_ n4_; (try clear hb); (try clear hb2); (try clear hk); (try clear hi)))
      go_roundg k1
      case measure => have := HK1.out; omega
      case rel => exact ⟨(wrap64 (x6_1 + 1)), (wrap64 (x8_1 + 1)), (x8_1), (by first | rfl | (simp; done) | (simp [*]; done)), (by first | rfl | (simp; done) | (simp [*]; done)), H', ⟨by have := HK1.out; omega⟩, ⟨bg BK331.out⟩, ⟨bg BK332.out⟩, ⟨bg BK333.out⟩, ⟨bg BK334.out⟩, ⟨bs HB.out⟩⟩
     ·
      replace c24 := Bool.eq_false_iff.mpr c24
      subst c24
      have H1 : (signalbenchlaw44_TrigautoCompares.l0 k1 x6_1 (wrap64 (x8_1 + 1)) a0_0 a0_1 a0_2 a0_3 a0_4 a1_0 a1_1 a1_2 a1_3 a1_4 a1_5 a1_6 a1_7 a1_8 a0_0 a0_1 0 0 0 a0_0 a0_1 a0_2 x8_1 a0_4) = some r := by rw [if_neg (show ¬ (false = true) by decide)] at H; exact H
      clear H
      have H := H1
      clear H1
      have H' := Aside0.mk H
      clear H
      have hnb33 := NB334_331.out
      have hnc33 := NB331_334.out
      have hnb34 := NB334_332.out
      have hnc34 := NB332_334.out
      have hnb35 := NB334_333.out
      have hnc35 := NB333_334.out
      obtain ⟨hcz36_0, hcz36_1, hcz36_2, hcz36_3, hcz36_4⟩ := bc5 BK334.out
      obtain ⟨hfz36_0, hfz36_1, hfz36_2, hfz36_3, hfz36_4⟩ := bf5 BK334.out
      have hnb37 := NB332_331.out
      have hnc37 := NB331_332.out
      have hnb38 := NB332_333.out
      have hnc38 := NB333_332.out
      obtain ⟨hcz39_0, hcz39_1, hcz39_2, hcz39_3, hcz39_4, hcz39_5, hcz39_6, hcz39_7, hcz39_8⟩ := bc9 BK332.out
      obtain ⟨hfz39_0, hfz39_1, hfz39_2, hfz39_3, hfz39_4, hfz39_5, hfz39_6, hfz39_7, hfz39_8⟩ := bf9 BK332.out
      go_wp2_with (first | (go_at_call 23; (with_reducible refine (trigauto_Holds.calls k1 a0_0 a0_1 a0_2 x8_1 a0_4 a1_0 a1_1 a1_2 a1_3 a1_4 a1_5 a1_6 a1_7 a1_8 false _ A23.out).mono ?_); rintro e w40 ⟨rfl, hb⟩; have n0_ := Aside0.mk (blk_below (g := gb331) (o := .cells #[.int .i64 a0_0, .int .i64 a0_1, .int .i64 a0_2, .int .i64 a0_3, .int .i64 a0_4] 42 (0, 0)) (by (with_reducible repeat (first | refine blk_drewN ?_ _ | refine blk_drew ?_ | refine blk_alloc ?_ _)); refine blk_far ?_ NB331_334.out _; exact bg BK331.out) hb); have n1_ := Aside0.mk (blk_below (g := gb332) (o := .cells #[.int .i64 a1_0, .int .i64 a1_1, .int .i64 a1_2, .int .i64 a1_3, .int .i64 a1_4, .int .i64 a1_5, .int .i64 a1_6, .string a1_7, .int .i64 a1_8] 46 (0, 0)) (by (with_reducible repeat (first | refine blk_drewN ?_ _ | refine blk_drew ?_ | refine blk_alloc ?_ _)); refine blk_far ?_ NB332_334.out _; exact bg BK332.out) hb); have n2_ := Aside0.mk (blk_below (g := gb333) (o := .cells #[.int .i64 a0_0, .int .i64 a0_1, .int .i64 0, .int .i64 0, .int .i64 0] 42 (0, 0)) (by (with_reducible repeat (first | refine blk_drewN ?_ _ | refine blk_drew ?_ | refine blk_alloc ?_ _)); refine blk_far ?_ NB333_334.out _; exact bg BK333.out) hb); have n3_ := Aside0.mk (blk_below (g := gb334) (o := .cells #[.int .i64 a0_0, .int .i64 a0_1, .int .i64 a0_2, .int .i64 x8_1, .int .i64 a0_4] 42 (0, 0)) (by (with_reducible repeat (first | refine blk_drewN ?_ _ | refine blk_drew ?_ | refine blk_alloc ?_ _)); refine blk_put (cs := #[.int .i64 a0_0, .int .i64 a0_1, .int .i64 a0_2, .int .i64 x335003_1, .int .i64 a0_4]) ?_ 3 _ rfl; exact bg BK334.out) hb); have n4_ := Aside0.mk (below_step (bs HB.out) hb); clear BK331; clear BK332; clear BK333; clear BK334; clear HB; have BK331 := n0_; have BK332 := n1_; have BK333 := n2_; have BK334 := n3_; have HB := n4_; clear n0_ n1_ n2_ n3_ n4_; (try clear hb); (try clear hb2); (try clear hk); (try clear hi)))
      go_roundg k1
      case measure => have := HK1.out; omega
      case rel => exact ⟨(x6_1), (wrap64 (x8_1 + 1)), (x8_1), (by first | rfl | (simp; done) | (simp [*]; done)), (by first | rfl | (simp; done) | (simp [*]; done)), H', ⟨by have := HK1.out; omega⟩, ⟨bg BK331.out⟩, ⟨bg BK332.out⟩, ⟨bg BK333.out⟩, ⟨bg BK334.out⟩, ⟨bs HB.out⟩⟩
   ·
    rw [if_neg c17] at H
    have c17b0 : decide (x8_1 ≤ 4) = false := decide_eq_false c17
    clear c17
    replace H := Option.bind_eq_some_iff.mp H
    obtain ⟨t336, A410, H⟩ := H
    replace H : ((trigauto_Holds.f k1 a0_0 a0_1 a0_2 2 a0_4 a1_0 a1_1 a1_2 a1_3 a1_4 a1_5 a1_6 a1_7 a1_8).bind fun t337 => ((trigauto_Holds.f k1 a0_0 a0_1 0 0 0 a1_0 a1_1 a1_2 a1_3 a1_4 a1_5 a1_6 a1_7 a1_8).bind fun t338 => (if t338 = true then (if a0_2 < 1 then (signalbenchlaw44_TrigautoCompares.j1 k1 x6_1 t336 t337 true) else (if a0_2 > 6 then (signalbenchlaw44_TrigautoCompares.j1 k1 x6_1 t336 t337 true) else (if a0_4 < (-9007199254740992) then (signalbenchlaw44_TrigautoCompares.j1 k1 x6_1 t336 t337 true) else (signalbenchlaw44_TrigautoCompares.j1 k1 x6_1 t336 t337 (decide (a0_4 > 9007199254740992)))))) else (signalbenchlaw44_TrigautoCompares.j1 k1 x6_1 t336 t337 true)))) = some r := H
    have A41 := Aside0.mk A410
    clear A410
    replace H := Option.bind_eq_some_iff.mp H
    obtain ⟨t337, A420, H⟩ := H
    replace H : ((trigauto_Holds.f k1 a0_0 a0_1 0 0 0 a1_0 a1_1 a1_2 a1_3 a1_4 a1_5 a1_6 a1_7 a1_8).bind fun t338 => (if t338 = true then (if a0_2 < 1 then (signalbenchlaw44_TrigautoCompares.j1 k1 x6_1 t336 t337 true) else (if a0_2 > 6 then (signalbenchlaw44_TrigautoCompares.j1 k1 x6_1 t336 t337 true) else (if a0_4 < (-9007199254740992) then (signalbenchlaw44_TrigautoCompares.j1 k1 x6_1 t336 t337 true) else (signalbenchlaw44_TrigautoCompares.j1 k1 x6_1 t336 t337 (decide (a0_4 > 9007199254740992)))))) else (signalbenchlaw44_TrigautoCompares.j1 k1 x6_1 t336 t337 true))) = some r := H
    have A42 := Aside0.mk A420
    clear A420
    have HC43 := Aside0.mk H
    clear H
    have hnb44 := NB334_331.out
    have hnc44 := NB331_334.out
    have hnb45 := NB334_332.out
    have hnc45 := NB332_334.out
    have hnb46 := NB334_333.out
    have hnc46 := NB333_334.out
    obtain ⟨hcz47_0, hcz47_1, hcz47_2, hcz47_3, hcz47_4⟩ := bc5 BK334.out
    obtain ⟨hfz47_0, hfz47_1, hfz47_2, hfz47_3, hfz47_4⟩ := bf5 BK334.out
    have hnb48 := NB332_331.out
    have hnc48 := NB331_332.out
    have hnb49 := NB332_333.out
    have hnc49 := NB333_332.out
    obtain ⟨hcz50_0, hcz50_1, hcz50_2, hcz50_3, hcz50_4, hcz50_5, hcz50_6, hcz50_7, hcz50_8⟩ := bc9 BK332.out
    obtain ⟨hfz50_0, hfz50_1, hfz50_2, hfz50_3, hfz50_4, hfz50_5, hfz50_6, hfz50_7, hfz50_8⟩ := bf9 BK332.out
    go_upto_region 14 with (first | ((with_reducible refine gate_callee (f := 23) rfl ?_); refine goesL_ (some 35) rfl rfl Try.func23 (by kernel_rfl) rfl #[.agg #[.int .i64 a0_0, .int .i64 a0_1, .int .i64 a0_2, .int .i64 1, .int .i64 a0_4], .agg #[.int .i64 a1_0, .int .i64 a1_1, .int .i64 a1_2, .int .i64 a1_3, .int .i64 a1_4, .int .i64 a1_5, .int .i64 a1_6, .string a1_7, .int .i64 a1_8]] rfl (by (try simp only [List.map_toArray, List.map_cons, List.map_nil]); first | done | rfl | (simp only [List.length_drop, List.length_take]; rfl)) ?_; (with_reducible refine (trigauto_Holds.calls k1 a0_0 a0_1 a0_2 1 a0_4 a1_0 a1_1 a1_2 a1_3 a1_4 a1_5 a1_6 a1_7 a1_8 t336 _ A41.out).mono ?_); rintro e w51 ⟨rfl, hb⟩; refine ⟨_, rfl, ?_⟩; have n0_ := Aside0.mk (blk_below (g := gb331) (o := .cells #[.int .i64 a0_0, .int .i64 a0_1, .int .i64 a0_2, .int .i64 a0_3, .int .i64 a0_4] 42 (0, 0)) (by (with_reducible repeat (first | refine blk_drewN ?_ _ | refine blk_drew ?_ | refine blk_alloc ?_ _)); refine blk_far ?_ NB331_334.out _; exact bg BK331.out) hb); have n1_ := Aside0.mk (blk_below (g := gb332) (o := .cells #[.int .i64 a1_0, .int .i64 a1_1, .int .i64 a1_2, .int .i64 a1_3, .int .i64 a1_4, .int .i64 a1_5, .int .i64 a1_6, .string a1_7, .int .i64 a1_8] 46 (0, 0)) (by (with_reducible repeat (first | refine blk_drewN ?_ _ | refine blk_drew ?_ | refine blk_alloc ?_ _)); refine blk_far ?_ NB332_334.out _; exact bg BK332.out) hb); have n2_ := Aside0.mk (blk_below (g := gb333) (o := .cells #[.int .i64 a0_0, .int .i64 a0_1, .int .i64 0, .int .i64 0, .int .i64 0] 42 (0, 0)) (by (with_reducible repeat (first | refine blk_drewN ?_ _ | refine blk_drew ?_ | refine blk_alloc ?_ _)); refine blk_far ?_ NB333_334.out _; exact bg BK333.out) hb); have n3_ := Aside0.mk (blk_below (g := gb334) (o := .cells #[.int .i64 a0_0, .int .i64 a0_1, .int .i64 a0_2, .int .i64 1, .int .i64 a0_4] 42 (0, 0)) (by (with_reducible repeat (first | refine blk_drewN ?_ _ | refine blk_drew ?_ | refine blk_alloc ?_ _)); refine blk_put (cs := #[.int .i64 a0_0, .int .i64 a0_1, .int .i64 a0_2, .int .i64 x335003_1, .int .i64 a0_4]) ?_ 3 _ rfl; exact bg BK334.out) hb); have n4_ := Aside0.mk (below_step (bs HB.out) hb); clear BK331; clear BK332; clear BK333; clear BK334; clear HB; have BK331 := n0_; have BK332 := n1_; have BK333 := n2_; have BK334 := n3_; have HB := n4_; clear n0_ n1_ n2_ n3_ n4_; (try clear hb); (try clear hb2); (try clear hk); (try clear hi); obtain ⟨hcz52_0, hcz52_1, hcz52_2, hcz52_3, hcz52_4⟩ := bc5 BK334.out; obtain ⟨hfz52_0, hfz52_1, hfz52_2, hfz52_3, hfz52_4⟩ := bf5 BK334.out; obtain ⟨hcz53_0, hcz53_1, hcz53_2, hcz53_3, hcz53_4, hcz53_5, hcz53_6, hcz53_7, hcz53_8⟩ := bc9 BK332.out; obtain ⟨hfz53_0, hfz53_1, hfz53_2, hfz53_3, hfz53_4, hfz53_5, hfz53_6, hfz53_7, hfz53_8⟩ := bf9 BK332.out) | ((with_reducible refine gate_callee (f := 23) rfl ?_); refine goesL_ (some 39) rfl rfl Try.func23 (by kernel_rfl) rfl #[.agg #[.int .i64 a0_0, .int .i64 a0_1, .int .i64 a0_2, .int .i64 2, .int .i64 a0_4], .agg #[.int .i64 a1_0, .int .i64 a1_1, .int .i64 a1_2, .int .i64 a1_3, .int .i64 a1_4, .int .i64 a1_5, .int .i64 a1_6, .string a1_7, .int .i64 a1_8]] rfl (by (try simp only [List.map_toArray, List.map_cons, List.map_nil]); first | done | rfl | (simp only [List.length_drop, List.length_take]; rfl)) ?_; (with_reducible refine (trigauto_Holds.calls k1 a0_0 a0_1 a0_2 2 a0_4 a1_0 a1_1 a1_2 a1_3 a1_4 a1_5 a1_6 a1_7 a1_8 t337 _ A42.out).mono ?_); rintro e w54 ⟨rfl, hb⟩; refine ⟨_, rfl, ?_⟩; have n0_ := Aside0.mk (blk_below (g := gb331) (o := .cells #[.int .i64 a0_0, .int .i64 a0_1, .int .i64 a0_2, .int .i64 a0_3, .int .i64 a0_4] 42 (0, 0)) (by (with_reducible repeat (first | refine blk_drewN ?_ _ | refine blk_drew ?_ | refine blk_alloc ?_ _)); refine blk_far ?_ NB331_334.out _; exact bg BK331.out) hb); have n1_ := Aside0.mk (blk_below (g := gb332) (o := .cells #[.int .i64 a1_0, .int .i64 a1_1, .int .i64 a1_2, .int .i64 a1_3, .int .i64 a1_4, .int .i64 a1_5, .int .i64 a1_6, .string a1_7, .int .i64 a1_8] 46 (0, 0)) (by (with_reducible repeat (first | refine blk_drewN ?_ _ | refine blk_drew ?_ | refine blk_alloc ?_ _)); refine blk_far ?_ NB332_334.out _; exact bg BK332.out) hb); have n2_ := Aside0.mk (blk_below (g := gb333) (o := .cells #[.int .i64 a0_0, .int .i64 a0_1, .int .i64 0, .int .i64 0, .int .i64 0] 42 (0, 0)) (by (with_reducible repeat (first | refine blk_drewN ?_ _ | refine blk_drew ?_ | refine blk_alloc ?_ _)); refine blk_far ?_ NB333_334.out _; exact bg BK333.out) hb); have n3_ := Aside0.mk (blk_below (g := gb334) (o := .cells #[.int .i64 a0_0, .int .i64 a0_1, .int .i64 a0_2, .int .i64 2, .int .i64 a0_4] 42 (0, 0)) (by (with_reducible repeat (first | refine blk_drewN ?_ _ | refine blk_drew ?_ | refine blk_alloc ?_ _)); refine blk_put (cs := #[.int .i64 a0_0, .int .i64 a0_1, .int .i64 a0_2, .int .i64 1, .int .i64 a0_4]) ?_ 3 _ rfl; exact bg BK334.out) hb); have n4_ := Aside0.mk (below_step (bs HB.out) hb); clear BK331; clear BK332; clear BK333; clear BK334; clear HB; have BK331 := n0_; have BK332 := n1_; have BK333 := n2_; have BK334 := n3_; have HB := n4_; clear n0_ n1_ n2_ n3_ n4_; (try clear hb); (try clear hb2); (try clear hk); (try clear hi)))
    (try simp only [Act.put, List.setIfInBounds_toArray, List.set_cons_zero, List.set_cons_succ])
    go_cut [63] (fun v63 wc => ∃ (kq : Nat) (x63_42 : Bool), v63 = .bool x63_42 ∧ Aside0 (signalbenchlaw44_TrigautoCompares.j1 kq x6_1 t336 t337 x63_42 = some r) ∧ Aside0 (kq ≤ k1) ∧ Aside0 (wc.heap[gb331]? = some (.cells #[.int .i64 a0_0, .int .i64 a0_1, .int .i64 a0_2, .int .i64 a0_3, .int .i64 a0_4] 42 (0, 0))) ∧ Aside0 (wc.heap[gb332]? = some (.cells #[.int .i64 a1_0, .int .i64 a1_1, .int .i64 a1_2, .int .i64 a1_3, .int .i64 a1_4, .int .i64 a1_5, .int .i64 a1_6, .string a1_7, .int .i64 a1_8] 46 (0, 0))) ∧ Aside0 (wc.heap[gb333]? = some (.cells #[.int .i64 a0_0, .int .i64 a0_1, .int .i64 0, .int .i64 0, .int .i64 0] 42 (0, 0))) ∧ Aside0 (wc.heap[gb334]? = some (.cells #[.int .i64 a0_0, .int .i64 a0_1, .int .i64 a0_2, .int .i64 2, .int .i64 a0_4] 42 (0, 0))) ∧ Aside0 (Below w.heap.size w wc))
    case first =>
     have H := HC43.out
     clear HC43
     replace H := Option.bind_eq_some_iff.mp H
     obtain ⟨t338, A550, H⟩ := H
     replace H : (if t338 = true then (if a0_2 < 1 then (signalbenchlaw44_TrigautoCompares.j1 k1 x6_1 t336 t337 true) else (if a0_2 > 6 then (signalbenchlaw44_TrigautoCompares.j1 k1 x6_1 t336 t337 true) else (if a0_4 < (-9007199254740992) then (signalbenchlaw44_TrigautoCompares.j1 k1 x6_1 t336 t337 true) else (signalbenchlaw44_TrigautoCompares.j1 k1 x6_1 t336 t337 (decide (a0_4 > 9007199254740992)))))) else (signalbenchlaw44_TrigautoCompares.j1 k1 x6_1 t336 t337 true)) = some r := H
     have A55 := Aside0.mk A550
     clear A550
     by_cases c56 : t338 = true
     ·
      subst c56
      have H1 : (if a0_2 < 1 then (signalbenchlaw44_TrigautoCompares.j1 k1 x6_1 t336 t337 true) else (if a0_2 > 6 then (signalbenchlaw44_TrigautoCompares.j1 k1 x6_1 t336 t337 true) else (if a0_4 < (-9007199254740992) then (signalbenchlaw44_TrigautoCompares.j1 k1 x6_1 t336 t337 true) else (signalbenchlaw44_TrigautoCompares.j1 k1 x6_1 t336 t337 (decide (a0_4 > 9007199254740992)))))) = some r := by rw [if_pos rfl] at H; exact H
      clear H
      have H := H1
      clear H1
      by_cases c57 : a0_2 < 1
      ·
       rw [if_pos c57] at H
       have c57b0 : decide (a0_2 < 1) = true := decide_eq_true c57
       clear c57
       (first | rw [c57b0] | (simp only [i64_w, i32_w]; rw [c57b0]) | skip)
       have H' := Aside0.mk H
       clear H
       have hnb58 := NB333_331.out
       have hnc58 := NB331_333.out
       have hnb59 := NB333_332.out
       have hnc59 := NB332_333.out
       have hnb60 := NB333_334.out
       have hnc60 := NB334_333.out
       obtain ⟨hcz61_0, hcz61_1, hcz61_2, hcz61_3, hcz61_4⟩ := bc5 BK333.out
       obtain ⟨hfz61_0, hfz61_1, hfz61_2, hfz61_3, hfz61_4⟩ := bf5 BK333.out
       have hnb62 := NB332_331.out
       have hnc62 := NB331_332.out
       have hnb63 := NB332_334.out
       have hnc63 := NB334_332.out
       obtain ⟨hcz64_0, hcz64_1, hcz64_2, hcz64_3, hcz64_4, hcz64_5, hcz64_6, hcz64_7, hcz64_8⟩ := bc9 BK332.out
       obtain ⟨hfz64_0, hfz64_1, hfz64_2, hfz64_3, hfz64_4, hfz64_5, hfz64_6, hfz64_7, hfz64_8⟩ := bf9 BK332.out
       go_wp2_with (first | ((with_reducible refine gate_callee (f := 23) rfl ?_); refine goesL_ (some 42) rfl rfl Try.func23 (by kernel_rfl) rfl #[.agg #[.int .i64 a0_0, .int .i64 a0_1, .int .i64 0, .int .i64 0, .int .i64 0], .agg #[.int .i64 a1_0, .int .i64 a1_1, .int .i64 a1_2, .int .i64 a1_3, .int .i64 a1_4, .int .i64 a1_5, .int .i64 a1_6, .string a1_7, .int .i64 a1_8]] rfl (by (try simp only [List.map_toArray, List.map_cons, List.map_nil]); first | done | rfl | (simp only [List.length_drop, List.length_take]; rfl)) ?_; (with_reducible refine (trigauto_Holds.calls k1 a0_0 a0_1 0 0 0 a1_0 a1_1 a1_2 a1_3 a1_4 a1_5 a1_6 a1_7 a1_8 true _ A55.out).mono ?_); rintro e w65 ⟨rfl, hb⟩; refine ⟨_, rfl, ?_⟩; have n0_ := Aside0.mk (blk_below (bg BK331.out) hb); have n1_ := Aside0.mk (blk_below (bg BK332.out) hb); have n2_ := Aside0.mk (blk_below (bg BK333.out) hb); have n3_ := Aside0.mk (blk_below (bg BK334.out) hb); have n4_ := Aside0.mk (below_step (bs HB.out) hb); clear BK331; clear BK332; clear BK333; clear BK334; clear HB; have BK331 := n0_; have BK332 := n1_; have BK333 := n2_; have BK334 := n3_; have HB := n4_; clear n0_ n1_ n2_ n3_ n4_; (try clear hb); (try clear hb2); (try clear hk); (try clear hi); have hnb66 := NB331_334.out; have hnc66 := NB334_331.out; obtain ⟨hcz67_0, hcz67_1, hcz67_2, hcz67_3, hcz67_4⟩ := bc5 BK331.out; obtain ⟨hfz67_0, hfz67_1, hfz67_2, hfz67_3, hfz67_4⟩ := bf5 BK331.out))
       go_meet
       case rel => exact ⟨_, (true), (by first | rfl | (simp; done) | (simp [*]; done)), H', ⟨by have := HK1.out; first | omega | exact Nat.le_refl _⟩, ⟨bg BK331.out⟩, ⟨bg BK332.out⟩, ⟨bg BK333.out⟩, ⟨bg BK334.out⟩, ⟨bs HB.out⟩⟩
      ·
       rw [if_neg c57] at H
       have c57b0 : decide (a0_2 < 1) = false := decide_eq_false c57
       clear c57
       (first | rw [c57b0] | (simp only [i64_w, i32_w]; rw [c57b0]) | skip)
       by_cases c68 : a0_2 > 6
       ·
        rw [if_pos c68] at H
        have c68b0 : decide (6 < a0_2) = true := decide_eq_true c68
        clear c68
        have H' := Aside0.mk H
        clear H
        have hnb69 := NB333_331.out
        have hnc69 := NB331_333.out
        have hnb70 := NB333_332.out
        have hnc70 := NB332_333.out
        have hnb71 := NB333_334.out
        have hnc71 := NB334_333.out
        obtain ⟨hcz72_0, hcz72_1, hcz72_2, hcz72_3, hcz72_4⟩ := bc5 BK333.out
        obtain ⟨hfz72_0, hfz72_1, hfz72_2, hfz72_3, hfz72_4⟩ := bf5 BK333.out
        have hnb73 := NB332_331.out
        have hnc73 := NB331_332.out
        have hnb74 := NB332_334.out
        have hnc74 := NB334_332.out
        obtain ⟨hcz75_0, hcz75_1, hcz75_2, hcz75_3, hcz75_4, hcz75_5, hcz75_6, hcz75_7, hcz75_8⟩ := bc9 BK332.out
        obtain ⟨hfz75_0, hfz75_1, hfz75_2, hfz75_3, hfz75_4, hfz75_5, hfz75_6, hfz75_7, hfz75_8⟩ := bf9 BK332.out
        go_wp2_with (first | ((with_reducible refine gate_callee (f := 23) rfl ?_); refine goesL_ (some 42) rfl rfl Try.func23 (by kernel_rfl) rfl #[.agg #[.int .i64 a0_0, .int .i64 a0_1, .int .i64 0, .int .i64 0, .int .i64 0], .agg #[.int .i64 a1_0, .int .i64 a1_1, .int .i64 a1_2, .int .i64 a1_3, .int .i64 a1_4, .int .i64 a1_5, .int .i64 a1_6, .string a1_7, .int .i64 a1_8]] rfl (by (try simp only [List.map_toArray, List.map_cons, List.map_nil]); first | done | rfl | (simp only [List.length_drop, List.length_take]; rfl)) ?_; (with_reducible refine (trigauto_Holds.calls k1 a0_0 a0_1 0 0 0 a1_0 a1_1 a1_2 a1_3 a1_4 a1_5 a1_6 a1_7 a1_8 true _ A55.out).mono ?_); rintro e w76 ⟨rfl, hb⟩; refine ⟨_, rfl, ?_⟩; have n0_ := Aside0.mk (blk_below (bg BK331.out) hb); have n1_ := Aside0.mk (blk_below (bg BK332.out) hb); have n2_ := Aside0.mk (blk_below (bg BK333.out) hb); have n3_ := Aside0.mk (blk_below (bg BK334.out) hb); have n4_ := Aside0.mk (below_step (bs HB.out) hb); clear BK331; clear BK332; clear BK333; clear BK334; clear HB; have BK331 := n0_; have BK332 := n1_; have BK333 := n2_; have BK334 := n3_; have HB := n4_; clear n0_ n1_ n2_ n3_ n4_; (try clear hb); (try clear hb2); (try clear hk); (try clear hi); have hnb77 := NB331_334.out; have hnc77 := NB334_331.out; obtain ⟨hcz78_0, hcz78_1, hcz78_2, hcz78_3, hcz78_4⟩ := bc5 BK331.out; obtain ⟨hfz78_0, hfz78_1, hfz78_2, hfz78_3, hfz78_4⟩ := bf5 BK331.out))
        go_meet
        case rel => exact ⟨_, (true), (by first | rfl | (simp; done) | (simp [*]; done)), H', ⟨by have := HK1.out; first | omega | exact Nat.le_refl _⟩, ⟨bg BK331.out⟩, ⟨bg BK332.out⟩, ⟨bg BK333.out⟩, ⟨bg BK334.out⟩, ⟨bs HB.out⟩⟩
       ·
        rw [if_neg c68] at H
        have c68b0 : decide (6 < a0_2) = false := decide_eq_false c68
        clear c68
        by_cases c79 : a0_4 < (-9007199254740992)
        ·
         rw [if_pos c79] at H
         have c79b0 : decide (a0_4 < (-9007199254740992)) = true := decide_eq_true c79
         clear c79
         have H' := Aside0.mk H
         clear H
         have hnb80 := NB333_331.out
         have hnc80 := NB331_333.out
         have hnb81 := NB333_332.out
         have hnc81 := NB332_333.out
         have hnb82 := NB333_334.out
         have hnc82 := NB334_333.out
         obtain ⟨hcz83_0, hcz83_1, hcz83_2, hcz83_3, hcz83_4⟩ := bc5 BK333.out
         obtain ⟨hfz83_0, hfz83_1, hfz83_2, hfz83_3, hfz83_4⟩ := bf5 BK333.out
         have hnb84 := NB332_331.out
         have hnc84 := NB331_332.out
         have hnb85 := NB332_334.out
         have hnc85 := NB334_332.out
         obtain ⟨hcz86_0, hcz86_1, hcz86_2, hcz86_3, hcz86_4, hcz86_5, hcz86_6, hcz86_7, hcz86_8⟩ := bc9 BK332.out
         obtain ⟨hfz86_0, hfz86_1, hfz86_2, hfz86_3, hfz86_4, hfz86_5, hfz86_6, hfz86_7, hfz86_8⟩ := bf9 BK332.out
         go_wp2_with (first | ((with_reducible refine gate_callee (f := 23) rfl ?_); refine goesL_ (some 42) rfl rfl Try.func23 (by kernel_rfl) rfl #[.agg #[.int .i64 a0_0, .int .i64 a0_1, .int .i64 0, .int .i64 0, .int .i64 0], .agg #[.int .i64 a1_0, .int .i64 a1_1, .int .i64 a1_2, .int .i64 a1_3, .int .i64 a1_4, .int .i64 a1_5, .int .i64 a1_6, .string a1_7, .int .i64 a1_8]] rfl (by (try simp only [List.map_toArray, List.map_cons, List.map_nil]); first | done | rfl | (simp only [List.length_drop, List.length_take]; rfl)) ?_; (with_reducible refine (trigauto_Holds.calls k1 a0_0 a0_1 0 0 0 a1_0 a1_1 a1_2 a1_3 a1_4 a1_5 a1_6 a1_7 a1_8 true _ A55.out).mono ?_); rintro e w87 ⟨rfl, hb⟩; refine ⟨_, rfl, ?_⟩; have n0_ := Aside0.mk (blk_below (bg BK331.out) hb); have n1_ := Aside0.mk (blk_below (bg BK332.out) hb); have n2_ := Aside0.mk (blk_below (bg BK333.out) hb); have n3_ := Aside0.mk (blk_below (bg BK334.out) hb); have n4_ := Aside0.mk (below_step (bs HB.out) hb); clear BK331; clear BK332; clear BK333; clear BK334; clear HB; have BK331 := n0_; have BK332 := n1_; have BK333 := n2_; have BK334 := n3_; have HB := n4_; clear n0_ n1_ n2_ n3_ n4_; (try clear hb); (try clear hb2); (try clear hk); (try clear hi); have hnb88 := NB331_334.out; have hnc88 := NB334_331.out; obtain ⟨hcz89_0, hcz89_1, hcz89_2, hcz89_3, hcz89_4⟩ := bc5 BK331.out; obtain ⟨hfz89_0, hfz89_1, hfz89_2, hfz89_3, hfz89_4⟩ := bf5 BK331.out))
         go_meet
         case rel => exact ⟨_, (true), (by first | rfl | (simp; done) | (simp [*]; done)), H', ⟨by have := HK1.out; first | omega | exact Nat.le_refl _⟩, ⟨bg BK331.out⟩, ⟨bg BK332.out⟩, ⟨bg BK333.out⟩, ⟨bg BK334.out⟩, ⟨bs HB.out⟩⟩
        ·
         rw [if_neg c79] at H
         have c79b0 : decide (a0_4 < (-9007199254740992)) = false := decide_eq_false c79
         clear c79
         have H' := Aside0.mk H
         clear H
         have hnb90 := NB333_331.out
         have hnc90 := NB331_333.out
         have hnb91 := NB333_332.out
         have hnc91 := NB332_333.out
         have hnb92 := NB333_334.out
         have hnc92 := NB334_333.out
         obtain ⟨hcz93_0, hcz93_1, hcz93_2, hcz93_3, hcz93_4⟩ := bc5 BK333.out
         obtain ⟨hfz93_0, hfz93_1, hfz93_2, hfz93_3, hfz93_4⟩ := bf5 BK333.out
         have hnb94 := NB332_331.out
         have hnc94 := NB331_332.out
         have hnb95 := NB332_334.out
         have hnc95 := NB334_332.out
         obtain ⟨hcz96_0, hcz96_1, hcz96_2, hcz96_3, hcz96_4, hcz96_5, hcz96_6, hcz96_7, hcz96_8⟩ := bc9 BK332.out
         obtain ⟨hfz96_0, hfz96_1, hfz96_2, hfz96_3, hfz96_4, hfz96_5, hfz96_6, hfz96_7, hfz96_8⟩ := bf9 BK332.out
         go_wp2_with (first | ((with_reducible refine gate_callee (f := 23) rfl ?_); refine goesL_ (some 42) rfl rfl Try.func23 (by kernel_rfl) rfl #[.agg #[.int .i64 a0_0, .int .i64 a0_1, .int .i64 0, .int .i64 0, .int .i64 0], .agg #[.int .i64 a1_0, .int .i64 a1_1, .int .i64 a1_2, .int .i64 a1_3, .int .i64 a1_4, .int .i64 a1_5, .int .i64 a1_6, .string a1_7, .int .i64 a1_8]] rfl (by (try simp only [List.map_toArray, List.map_cons, List.map_nil]); first | done | rfl | (simp only [List.length_drop, List.length_take]; rfl)) ?_; (with_reducible refine (trigauto_Holds.calls k1 a0_0 a0_1 0 0 0 a1_0 a1_1 a1_2 a1_3 a1_4 a1_5 a1_6 a1_7 a1_8 true _ A55.out).mono ?_); rintro e w97 ⟨rfl, hb⟩; refine ⟨_, rfl, ?_⟩; have n0_ := Aside0.mk (blk_below (bg BK331.out) hb); have n1_ := Aside0.mk (blk_below (bg BK332.out) hb); have n2_ := Aside0.mk (blk_below (bg BK333.out) hb); have n3_ := Aside0.mk (blk_below (bg BK334.out) hb); have n4_ := Aside0.mk (below_step (bs HB.out) hb); clear BK331; clear BK332; clear BK333; clear BK334; clear HB; have BK331 := n0_; have BK332 := n1_; have BK333 := n2_; have BK334 := n3_; have HB := n4_; clear n0_ n1_ n2_ n3_ n4_; (try clear hb); (try clear hb2); (try clear hk); (try clear hi); have hnb98 := NB331_334.out; have hnc98 := NB334_331.out; obtain ⟨hcz99_0, hcz99_1, hcz99_2, hcz99_3, hcz99_4⟩ := bc5 BK331.out; obtain ⟨hfz99_0, hfz99_1, hfz99_2, hfz99_3, hfz99_4⟩ := bf5 BK331.out))
         go_meet
         case rel => exact ⟨_, (decide (a0_4 > 9007199254740992)), (by first | rfl | (simp; done) | (simp [*]; done)), H', ⟨by have := HK1.out; first | omega | exact Nat.le_refl _⟩, ⟨bg BK331.out⟩, ⟨bg BK332.out⟩, ⟨bg BK333.out⟩, ⟨bg BK334.out⟩, ⟨bs HB.out⟩⟩
     ·
      replace c56 := Bool.eq_false_iff.mpr c56
      subst c56
      have H1 : (signalbenchlaw44_TrigautoCompares.j1 k1 x6_1 t336 t337 true) = some r := by rw [if_neg (show ¬ (false = true) by decide)] at H; exact H
      clear H
      have H := H1
      clear H1
      have H' := Aside0.mk H
      clear H
      have hnb100 := NB333_331.out
      have hnc100 := NB331_333.out
      have hnb101 := NB333_332.out
      have hnc101 := NB332_333.out
      have hnb102 := NB333_334.out
      have hnc102 := NB334_333.out
      obtain ⟨hcz103_0, hcz103_1, hcz103_2, hcz103_3, hcz103_4⟩ := bc5 BK333.out
      obtain ⟨hfz103_0, hfz103_1, hfz103_2, hfz103_3, hfz103_4⟩ := bf5 BK333.out
      have hnb104 := NB332_331.out
      have hnc104 := NB331_332.out
      have hnb105 := NB332_334.out
      have hnc105 := NB334_332.out
      obtain ⟨hcz106_0, hcz106_1, hcz106_2, hcz106_3, hcz106_4, hcz106_5, hcz106_6, hcz106_7, hcz106_8⟩ := bc9 BK332.out
      obtain ⟨hfz106_0, hfz106_1, hfz106_2, hfz106_3, hfz106_4, hfz106_5, hfz106_6, hfz106_7, hfz106_8⟩ := bf9 BK332.out
      go_wp2_with (first | ((with_reducible refine gate_callee (f := 23) rfl ?_); refine goesL_ (some 42) rfl rfl Try.func23 (by kernel_rfl) rfl #[.agg #[.int .i64 a0_0, .int .i64 a0_1, .int .i64 0, .int .i64 0, .int .i64 0], .agg #[.int .i64 a1_0, .int .i64 a1_1, .int .i64 a1_2, .int .i64 a1_3, .int .i64 a1_4, .int .i64 a1_5, .int .i64 a1_6, .string a1_7, .int .i64 a1_8]] rfl (by (try simp only [List.map_toArray, List.map_cons, List.map_nil]); first | done | rfl | (simp only [List.length_drop, List.length_take]; rfl)) ?_; (with_reducible refine (trigauto_Holds.calls k1 a0_0 a0_1 0 0 0 a1_0 a1_1 a1_2 a1_3 a1_4 a1_5 a1_6 a1_7 a1_8 false _ A55.out).mono ?_); rintro e w107 ⟨rfl, hb⟩; refine ⟨_, rfl, ?_⟩; have n0_ := Aside0.mk (blk_below (bg BK331.out) hb); have n1_ := Aside0.mk (blk_below (bg BK332.out) hb); have n2_ := Aside0.mk (blk_below (bg BK333.out) hb); have n3_ := Aside0.mk (blk_below (bg BK334.out) hb); have n4_ := Aside0.mk (below_step (bs HB.out) hb); clear BK331; clear BK332; clear BK333; clear BK334; clear HB; have BK331 := n0_; have BK332 := n1_; have BK333 := n2_; have BK334 := n3_; have HB := n4_; clear n0_ n1_ n2_ n3_ n4_; (try clear hb); (try clear hb2); (try clear hk); (try clear hi)))
      go_meet
      case rel => exact ⟨_, (true), (by first | rfl | (simp; done) | (simp [*]; done)), H', ⟨by have := HK1.out; first | omega | exact Nat.le_refl _⟩, ⟨bg BK331.out⟩, ⟨bg BK332.out⟩, ⟨bg BK333.out⟩, ⟨bg BK334.out⟩, ⟨bs HB.out⟩⟩
    case rest =>
     clear HC43
     try clear c1
     try clear c2
     try clear p2
     try clear c3
     try clear c4
     try clear c5
     try clear c6
     try clear p6
     try clear c7
     try clear c8
     try clear c9
     try clear c10
     try clear c13
     try clear c14
     try clear c15
     try clear c17
     try clear c17b0
     try clear c18
     try clear c18b0
     try clear c18b1
     try clear c19
     try clear c20
     try clear c21
     try clear c23
     try clear c24
     try clear c25
     try clear c26
     try clear c27
     try clear c29
     try clear c30
     try clear c33
     try clear c34
     try clear c35
     try clear c37
     try clear c38
     try clear c44
     try clear c45
     try clear c46
     try clear c48
     try clear c49
     try clear c56
     try clear c57
     try clear c57b0
     try clear c58
     try clear c59
     try clear c60
     try clear c62
     try clear c63
     try clear p64
     try clear c66
     try clear c68
     try clear c68b0
     try clear c69
     try clear c70
     try clear c71
     try clear c73
     try clear c74
     try clear c77
     try clear c79
     try clear c79b0
     try clear c80
     try clear c81
     try clear c82
     try clear c84
     try clear c85
     try clear c88
     try clear c90
     try clear c91
     try clear c92
     try clear c94
     try clear c95
     try clear c98
     try clear c100
     try clear c101
     try clear c102
     try clear c104
     try clear c105
     try clear hcz103_0 hcz103_1 hcz103_2 hcz103_3 hcz103_4
     try clear hcz106_0 hcz106_1 hcz106_2 hcz106_3 hcz106_4 hcz106_5 hcz106_6 hcz106_7 hcz106_8
     try clear hcz10_0 hcz10_1 hcz10_2 hcz10_3 hcz10_4
     try clear hcz11_0 hcz11_1 hcz11_2 hcz11_3 hcz11_4
     try clear hcz16_0 hcz16_1 hcz16_2 hcz16_3 hcz16_4
     try clear hcz22_0 hcz22_1 hcz22_2 hcz22_3 hcz22_4
     try clear hcz28_0 hcz28_1 hcz28_2 hcz28_3 hcz28_4
     try clear hcz31_0 hcz31_1 hcz31_2 hcz31_3 hcz31_4 hcz31_5 hcz31_6 hcz31_7 hcz31_8
     try clear hcz36_0 hcz36_1 hcz36_2 hcz36_3 hcz36_4
     try clear hcz39_0 hcz39_1 hcz39_2 hcz39_3 hcz39_4 hcz39_5 hcz39_6 hcz39_7 hcz39_8
     try clear hcz47_0 hcz47_1 hcz47_2 hcz47_3 hcz47_4
     try clear hcz50_0 hcz50_1 hcz50_2 hcz50_3 hcz50_4 hcz50_5 hcz50_6 hcz50_7 hcz50_8
     try clear hcz52_0 hcz52_1 hcz52_2 hcz52_3 hcz52_4
     try clear hcz53_0 hcz53_1 hcz53_2 hcz53_3 hcz53_4 hcz53_5 hcz53_6 hcz53_7 hcz53_8
     try clear hcz61_0 hcz61_1 hcz61_2 hcz61_3 hcz61_4
     try clear hcz64_0 hcz64_1 hcz64_2 hcz64_3 hcz64_4 hcz64_5 hcz64_6 hcz64_7 hcz64_8
     try clear hcz67_0 hcz67_1 hcz67_2 hcz67_3 hcz67_4
     try clear hcz6_0 hcz6_1 hcz6_2 hcz6_3 hcz6_4
     try clear hcz72_0 hcz72_1 hcz72_2 hcz72_3 hcz72_4
     try clear hcz75_0 hcz75_1 hcz75_2 hcz75_3 hcz75_4 hcz75_5 hcz75_6 hcz75_7 hcz75_8
     try clear hcz78_0 hcz78_1 hcz78_2 hcz78_3 hcz78_4
     try clear hcz83_0 hcz83_1 hcz83_2 hcz83_3 hcz83_4
     try clear hcz86_0 hcz86_1 hcz86_2 hcz86_3 hcz86_4 hcz86_5 hcz86_6 hcz86_7 hcz86_8
     try clear hcz89_0 hcz89_1 hcz89_2 hcz89_3 hcz89_4
     try clear hcz93_0 hcz93_1 hcz93_2 hcz93_3 hcz93_4
     try clear hcz96_0 hcz96_1 hcz96_2 hcz96_3 hcz96_4 hcz96_5 hcz96_6 hcz96_7 hcz96_8
     try clear hcz99_0 hcz99_1 hcz99_2 hcz99_3 hcz99_4
     try clear hfz103_0 hfz103_1 hfz103_2 hfz103_3 hfz103_4
     try clear hfz106_0 hfz106_1 hfz106_2 hfz106_3 hfz106_4 hfz106_5 hfz106_6 hfz106_7 hfz106_8
     try clear hfz10_0 hfz10_1 hfz10_2 hfz10_3 hfz10_4
     try clear hfz11_0 hfz11_1 hfz11_2 hfz11_3 hfz11_4
     try clear hfz16_0 hfz16_1 hfz16_2 hfz16_3 hfz16_4
     try clear hfz22_0 hfz22_1 hfz22_2 hfz22_3 hfz22_4
     try clear hfz28_0 hfz28_1 hfz28_2 hfz28_3 hfz28_4
     try clear hfz31_0 hfz31_1 hfz31_2 hfz31_3 hfz31_4 hfz31_5 hfz31_6 hfz31_7 hfz31_8
     try clear hfz36_0 hfz36_1 hfz36_2 hfz36_3 hfz36_4
     try clear hfz39_0 hfz39_1 hfz39_2 hfz39_3 hfz39_4 hfz39_5 hfz39_6 hfz39_7 hfz39_8
     try clear hfz47_0 hfz47_1 hfz47_2 hfz47_3 hfz47_4
     try clear hfz50_0 hfz50_1 hfz50_2 hfz50_3 hfz50_4 hfz50_5 hfz50_6 hfz50_7 hfz50_8
     try clear hfz52_0 hfz52_1 hfz52_2 hfz52_3 hfz52_4
     try clear hfz53_0 hfz53_1 hfz53_2 hfz53_3 hfz53_4 hfz53_5 hfz53_6 hfz53_7 hfz53_8
     try clear hfz61_0 hfz61_1 hfz61_2 hfz61_3 hfz61_4
     try clear hfz64_0 hfz64_1 hfz64_2 hfz64_3 hfz64_4 hfz64_5 hfz64_6 hfz64_7 hfz64_8
     try clear hfz67_0 hfz67_1 hfz67_2 hfz67_3 hfz67_4
     try clear hfz6_0 hfz6_1 hfz6_2 hfz6_3 hfz6_4
     try clear hfz72_0 hfz72_1 hfz72_2 hfz72_3 hfz72_4
     try clear hfz75_0 hfz75_1 hfz75_2 hfz75_3 hfz75_4 hfz75_5 hfz75_6 hfz75_7 hfz75_8
     try clear hfz78_0 hfz78_1 hfz78_2 hfz78_3 hfz78_4
     try clear hfz83_0 hfz83_1 hfz83_2 hfz83_3 hfz83_4
     try clear hfz86_0 hfz86_1 hfz86_2 hfz86_3 hfz86_4 hfz86_5 hfz86_6 hfz86_7 hfz86_8
     try clear hfz89_0 hfz89_1 hfz89_2 hfz89_3 hfz89_4
     try clear hfz93_0 hfz93_1 hfz93_2 hfz93_3 hfz93_4
     try clear hfz96_0 hfz96_1 hfz96_2 hfz96_3 hfz96_4 hfz96_5 hfz96_6 hfz96_7 hfz96_8
     try clear hfz99_0 hfz99_1 hfz99_2 hfz99_3 hfz99_4
     try clear p2
     obtain ⟨kq, x63_42, rfl, HA, HJ42, BK331, BK332, BK333, BK334, HB⟩ := hcut
     cases kq with
     | zero => exact absurd HA.out (by simp [signalbenchlaw44_TrigautoCompares.j1])
     | succ kj42 =>
      have H := HA.out
      clear HA
      simp only [signalbenchlaw44_TrigautoCompares.j1] at H
      by_cases c108 : x63_42 = true
      ·
       subst c108
       have H1 : (if x6_1 = 0 then (if t336 = true then (some false) else (if t337 = true then (some false) else ((signalbenchlaw44_awake.f).bind fun t339 => (some t339)))) else (some false)) = some r := by rw [if_pos rfl] at H; exact H
       clear H
       have H := H1
       clear H1
       by_cases c109 : x6_1 = 0
       ·
        rw [if_pos c109] at H
        have c109b0 : (x6_1 == 0) = true := beq_iff_eq.mpr c109
        have c109b1 : (x6_1 != 0) = false := bne_eq_false_iff_eq.mpr c109
        clear c109
        by_cases c110 : t336 = true
        ·
         subst c110
         have H1 : (some false) = some r := by rw [if_pos rfl] at H; exact H
         clear H
         have H := H1
         clear H1
         obtain rfl := Option.some.inj H
         go_wp2
         go_ret
         exact ⟨by first | rfl | (simp [errW_none, errW_some] <;> rfl) | (simp [*, errW_none, errW_some] <;> rfl), bs HB.out⟩
        ·
         replace c110 := Bool.eq_false_iff.mpr c110
         subst c110
         have H1 : (if t337 = true then (some false) else ((signalbenchlaw44_awake.f).bind fun t339 => (some t339))) = some r := by rw [if_neg (show ¬ (false = true) by decide)] at H; exact H
         clear H
         have H := H1
         clear H1
         by_cases c111 : t337 = true
         ·
          subst c111
          have H1 : (some false) = some r := by rw [if_pos rfl] at H; exact H
          clear H
          have H := H1
          clear H1
          obtain rfl := Option.some.inj H
          go_wp2
          go_ret
          exact ⟨by first | rfl | (simp [errW_none, errW_some] <;> rfl) | (simp [*, errW_none, errW_some] <;> rfl), bs HB.out⟩
         ·
          replace c111 := Bool.eq_false_iff.mpr c111
          subst c111
          have H1 : ((signalbenchlaw44_awake.f).bind fun t339 => (some t339)) = some r := by rw [if_neg (show ¬ (false = true) by decide)] at H; exact H
          clear H
          have H := H1
          clear H1
          replace H := Option.bind_eq_some_iff.mp H
          obtain ⟨t339, A1120, H⟩ := H
          replace H : (some t339) = some r := H
          have A112 := Aside0.mk A1120
          clear A1120
          obtain rfl := Option.some.inj H
          go_wp2_with (first | (go_at_call 19; (with_reducible refine (signalbenchlaw44_awake.calls  t339 _ A112.out).mono ?_); rintro e w113 ⟨rfl, hb⟩; have n0_ := Aside0.mk (blk_below (bg BK331.out) hb); have n1_ := Aside0.mk (blk_below (bg BK332.out) hb); have n2_ := Aside0.mk (blk_below (bg BK333.out) hb); have n3_ := Aside0.mk (blk_below (bg BK334.out) hb); have n4_ := Aside0.mk (below_step (bs HB.out) hb); clear BK331; clear BK332; clear BK333; clear BK334; clear HB; have BK331 := n0_; have BK332 := n1_; have BK333 := n2_; have BK334 := n3_; have HB := n4_; clear n0_ n1_ n2_ n3_ n4_; (try clear hb); (try clear hb2); (try clear hk); (try clear hi)))
          go_ret
          exact ⟨by first | rfl | (simp [errW_none, errW_some] <;> rfl) | (simp [*, errW_none, errW_some] <;> rfl), bs HB.out⟩
       ·
        rw [if_neg c109] at H
        have c109b0 : (x6_1 == 0) = false := beq_eq_false_iff_ne.mpr c109
        have c109b1 : (x6_1 != 0) = true := bne_iff_ne.mpr c109
        obtain rfl := Option.some.inj H
        go_wp2
        go_ret
        exact ⟨by first | rfl | (simp [errW_none, errW_some] <;> rfl) | (simp [*, errW_none, errW_some] <;> rfl), bs HB.out⟩
      ·
       replace c108 := Bool.eq_false_iff.mpr c108
       subst c108
       have H1 : (if x6_1 = 1 then (if (t336 != t337) = true then ((signalbenchlaw44_awake.f).bind fun t340 => (some t340)) else (some false)) else (some false)) = some r := by rw [if_neg (show ¬ (false = true) by decide)] at H; exact H
       clear H
       have H := H1
       clear H1
       by_cases c114 : x6_1 = 1
       ·
        rw [if_pos c114] at H
        have c114b0 : (x6_1 == 1) = true := beq_iff_eq.mpr c114
        have c114b1 : (x6_1 != 1) = false := bne_eq_false_iff_eq.mpr c114
        clear c114
        by_cases c115 : (t336 != t337) = true
        ·
         rw [if_pos c115] at H
         have c115b0 : (t336 != t337) = true := c115
         (try (have c115b1 : decide (t336 = t337) = false := by simpa using c115))
         (try (have c115b2 : (t336 == t337) = false := by simpa using c115))
         (try (have c115b3 : ¬ (t336 = t337) := by simpa using c115))
         clear c115
         replace H := Option.bind_eq_some_iff.mp H
         obtain ⟨t340, A1160, H⟩ := H
         replace H : (some t340) = some r := H
         have A116 := Aside0.mk A1160
         clear A1160
         obtain rfl := Option.some.inj H
         go_wp2_with (first | (go_at_call 19; (with_reducible refine (signalbenchlaw44_awake.calls  t340 _ A116.out).mono ?_); rintro e w117 ⟨rfl, hb⟩; have n0_ := Aside0.mk (blk_below (bg BK331.out) hb); have n1_ := Aside0.mk (blk_below (bg BK332.out) hb); have n2_ := Aside0.mk (blk_below (bg BK333.out) hb); have n3_ := Aside0.mk (blk_below (bg BK334.out) hb); have n4_ := Aside0.mk (below_step (bs HB.out) hb); clear BK331; clear BK332; clear BK333; clear BK334; clear HB; have BK331 := n0_; have BK332 := n1_; have BK333 := n2_; have BK334 := n3_; have HB := n4_; clear n0_ n1_ n2_ n3_ n4_; (try clear hb); (try clear hb2); (try clear hk); (try clear hi)))
         go_ret
         exact ⟨by first | rfl | (simp [errW_none, errW_some] <;> rfl) | (simp [*, errW_none, errW_some] <;> rfl), bs HB.out⟩
        ·
         rw [if_neg c115] at H
         have c115b0 : (t336 != t337) = false := by simpa using c115
         (try (have c115b1 : decide (t336 = t337) = true := by simpa using c115))
         (try (have c115b2 : (t336 == t337) = true := by simpa using c115))
         clear c115
         obtain rfl := Option.some.inj H
         go_wp2
         go_ret
         exact ⟨by first | rfl | (simp [errW_none, errW_some] <;> rfl) | (simp [*, errW_none, errW_some] <;> rfl), bs HB.out⟩
       ·
        rw [if_neg c114] at H
        have c114b0 : (x6_1 == 1) = false := beq_eq_false_iff_ne.mpr c114
        have c114b1 : (x6_1 != 1) = true := bne_iff_ne.mpr c114
        obtain rfl := Option.some.inj H
        go_wp2
        go_ret
        exact ⟨by first | rfl | (simp [errW_none, errW_some] <;> rfl) | (simp [*, errW_none, errW_some] <;> rfl), bs HB.out⟩

end Go.Proofs.Ytgdjiphljadlcaa.H
