-- Printed by wip/hprint.py (this project's own driver of the kit's print) out of the translation; Lean checks it.
import Derived.Test.YtgdjiphljadlcaaH0
import Derived.Test.YtgdjiphljadlcaaH11
import Derived.Test.YtgdjiphljadlcaaH25
import Derived.Test.YtgdjiphljadlcaaH28
import Derived.Test.YtgdjiphljadlcaaH29
import Derived.Test.YtgdjiphljadlcaaH42
namespace Go.Proofs.Ytgdjiphljadlcaa.H
open Go.RowKit Go.Proofs.YtgdjiphljadlcaaW.PrintWords Go.Proofs.YtgdjiphljadlcaaW.PrintLast Go.Proofs.YtgdjiphljadlcaaW.PrintMore
attribute [local go_sem] max2_int min2_int max_two min_two max_three min_three max_four min_four   -- for this text's walks alone
set_option linter.unusedVariables false
set_option linter.unusedSimpArgs false

/-! ### signalbenchlaw44_TrigautoHolds: function 14 -/
mutual
def signalbenchlaw44_TrigautoHolds.l0 : Nat → Int → Int → ByteArray → List (S64) → List (S139) → List (S100) → Int → Int → Int → Int → Int → Int → Int → ByteArray → Int → List (S50) → Option (Bool)
 | 0, _, _, _, _, _, _, _, _, _, _, _, _, _, _, _, _ => none
 | k + 1, x9, x10, x350000, x350001, x351000, x351001, x352000, x352001, x352002, x352003, x352004, x352005, x352006, x352007, x352008, x357000 => if x10 < (x350001.length : Int) then (if 0 ≤ x10 then (signalbenchlaw44_TrigautoHolds.l1 k x9 x10 0 x350000 x350001 x351000 x351001 x352000 x352001 x352002 x352003 x352004 x352005 x352006 x352007 x352008 x357000 ((rd_T64 x350001 x10).f0.f0) ((rd_T64 x350001 x10).f0.f1) ((rd_T64 x350001 x10).f0.f2) ((rd_T64 x350001 x10).f0.f3) ((rd_T64 x350001 x10).f0.f4) ((rd_T64 x350001 x10).f1) ((rd_T64 x350001 x10).f2) ((rd_T64 x350001 x10).f3) ((rd_T64 x350001 x10).f4.f0) ((rd_T64 x350001 x10).f4.f1) ((rd_T64 x350001 x10).f4.f2) ((rd_T64 x350001 x10).f4.f3) ((rd_T64 x350001 x10).f4.f4)) else (none)) else (if x9 = (x357000.length : Int) then ((trigauto_Memory.f x357000).bind fun t358 => (if t358 = x9 then ((signalbenchlaw44_awake.f).bind fun t359 => (some t359)) else (some false))) else (some false))
def signalbenchlaw44_TrigautoHolds.l1 : Nat → Int → Int → Int → ByteArray → List (S64) → List (S139) → List (S100) → Int → Int → Int → Int → Int → Int → Int → ByteArray → Int → List (S50) → ByteArray → Int → Int → Int → Int → Int → Int → Bool → ByteArray → Int → Int → Int → Int → Option (Bool)
 | 0, _, _, _, _, _, _, _, _, _, _, _, _, _, _, _, _, _, _, _, _, _, _, _, _, _, _, _, _, _, _ => none
 | k + 1, x9, x10, x12, x350000, x350001, x351000, x351001, x352000, x352001, x352002, x352003, x352004, x352005, x352006, x352007, x352008, x357000, x362000, x362001, x362002, x362003, x362004, x362005, x362006, x362007, x362008, x362009, x362010, x362011, x362012 => if x12 < x362005 then (if x9 ≥ (x357000.length : Int) then (some false) else (if 0 ≤ x9 then (if x9 < (x357000.length : Int) then ((trigauto_Holds.f k ((rd_T50 x357000 x9).f0.f0) ((rd_T50 x357000 x9).f0.f1) ((rd_T50 x357000 x9).f0.f2) ((rd_T50 x357000 x9).f0.f3) ((rd_T50 x357000 x9).f0.f4) x352000 x352001 x352002 x352003 x352004 x352005 x352006 x352007 x352008).bind fun t364 => ((trig_Holds.f k x362000 x362001 x362002 x362003 x362004 x351000 x351001 x352000 x352001 x352002 x352003 x352004 x352005 x352006 x352007 x352008).bind fun t365 => (if (t364 != t365) = true then (some false) else (if x9 > 0 then (if ((rd_T50 x357000 x9).f1) = x362006 then (signalbenchlaw44_TrigautoHolds.j2 k x9 x10 x12 (((rd_T50 x357000 x9).f2) != x362007) x350000 x350001 x351000 x351001 x352000 x352001 x352002 x352003 x352004 x352005 x352006 x352007 x352008 x357000 x362000 x362001 x362002 x362003 x362004 x362005 x362006 x362007 x362008 x362009 x362010 x362011 x362012 ((rd_T50 x357000 x9).f0.f0) ((rd_T50 x357000 x9).f0.f1) ((rd_T50 x357000 x9).f0.f2) ((rd_T50 x357000 x9).f0.f3) ((rd_T50 x357000 x9).f0.f4) ((rd_T50 x357000 x9).f1) ((rd_T50 x357000 x9).f2) ((rd_T50 x357000 x9).f3.f0) ((rd_T50 x357000 x9).f3.f1) ((rd_T50 x357000 x9).f3.f2) ((rd_T50 x357000 x9).f3.f3) ((rd_T50 x357000 x9).f3.f4)) else (signalbenchlaw44_TrigautoHolds.j2 k x9 x10 x12 true x350000 x350001 x351000 x351001 x352000 x352001 x352002 x352003 x352004 x352005 x352006 x352007 x352008 x357000 x362000 x362001 x362002 x362003 x362004 x362005 x362006 x362007 x362008 x362009 x362010 x362011 x362012 ((rd_T50 x357000 x9).f0.f0) ((rd_T50 x357000 x9).f0.f1) ((rd_T50 x357000 x9).f0.f2) ((rd_T50 x357000 x9).f0.f3) ((rd_T50 x357000 x9).f0.f4) ((rd_T50 x357000 x9).f1) ((rd_T50 x357000 x9).f2) ((rd_T50 x357000 x9).f3.f0) ((rd_T50 x357000 x9).f3.f1) ((rd_T50 x357000 x9).f3.f2) ((rd_T50 x357000 x9).f3.f3) ((rd_T50 x357000 x9).f3.f4))) else (signalbenchlaw44_TrigautoHolds.j2 k x9 x10 x12 false x350000 x350001 x351000 x351001 x352000 x352001 x352002 x352003 x352004 x352005 x352006 x352007 x352008 x357000 x362000 x362001 x362002 x362003 x362004 x362005 x362006 x362007 x362008 x362009 x362010 x362011 x362012 ((rd_T50 x357000 x9).f0.f0) ((rd_T50 x357000 x9).f0.f1) ((rd_T50 x357000 x9).f0.f2) ((rd_T50 x357000 x9).f0.f3) ((rd_T50 x357000 x9).f0.f4) ((rd_T50 x357000 x9).f1) ((rd_T50 x357000 x9).f2) ((rd_T50 x357000 x9).f3.f0) ((rd_T50 x357000 x9).f3.f1) ((rd_T50 x357000 x9).f3.f2) ((rd_T50 x357000 x9).f3.f3) ((rd_T50 x357000 x9).f3.f4)))))) else (none)) else (none))) else (signalbenchlaw44_TrigautoHolds.l0 k x9 (wrap64 (x10 + 1)) x350000 x350001 x351000 x351001 x352000 x352001 x352002 x352003 x352004 x352005 x352006 x352007 x352008 x357000)
def signalbenchlaw44_TrigautoHolds.j2 : Nat → Int → Int → Int → Bool → ByteArray → List (S64) → List (S139) → List (S100) → Int → Int → Int → Int → Int → Int → Int → ByteArray → Int → List (S50) → ByteArray → Int → Int → Int → Int → Int → Int → Bool → ByteArray → Int → Int → Int → Int → Int → Int → Int → Int → Int → Int → Bool → Int → Int → Int → Int → Int → Option (Bool)
 | 0, _, _, _, _, _, _, _, _, _, _, _, _, _, _, _, _, _, _, _, _, _, _, _, _, _, _, _, _, _, _, _, _, _, _, _, _, _, _, _, _, _, _, _ => none
 | k + 1, x9, x10, x12, x82, x350000, x350001, x351000, x351001, x352000, x352001, x352002, x352003, x352004, x352005, x352006, x352007, x352008, x357000, x362000, x362001, x362002, x362003, x362004, x362005, x362006, x362007, x362008, x362009, x362010, x362011, x362012, x364000, x364001, x364002, x364003, x364004, x364005, x364006, x364007, x364008, x364009, x364010, x364011 => if x82 = true then (some false) else (if x9 > 0 then (if x362007 = true then ((trigauto_Holds.f k x364007 x364008 x364009 x364010 x364011 x352000 x352001 x352002 x352003 x352004 x352005 x352006 x352007 x352008).bind fun t366 => ((trig_Holds.f k x362008 x362009 x362010 x362011 x362012 x351000 x351001 x352000 x352001 x352002 x352003 x352004 x352005 x352006 x352007 x352008).bind fun t367 => (if (t366 != t367) = true then (some false) else (signalbenchlaw44_TrigautoHolds.l1 k (wrap64 (x9 + 1)) x10 (wrap64 (x12 + 1)) x350000 x350001 x351000 x351001 x352000 x352001 x352002 x352003 x352004 x352005 x352006 x352007 x352008 x357000 x362000 x362001 x362002 x362003 x362004 x362005 x362006 x362007 x362008 x362009 x362010 x362011 x362012)))) else (signalbenchlaw44_TrigautoHolds.l1 k (wrap64 (x9 + 1)) x10 (wrap64 (x12 + 1)) x350000 x350001 x351000 x351001 x352000 x352001 x352002 x352003 x352004 x352005 x352006 x352007 x352008 x357000 x362000 x362001 x362002 x362003 x362004 x362005 x362006 x362007 x362008 x362009 x362010 x362011 x362012)) else (signalbenchlaw44_TrigautoHolds.l1 k (wrap64 (x9 + 1)) x10 (wrap64 (x12 + 1)) x350000 x350001 x351000 x351001 x352000 x352001 x352002 x352003 x352004 x352005 x352006 x352007 x352008 x357000 x362000 x362001 x362002 x362003 x362004 x362005 x362006 x362007 x362008 x362009 x362010 x362011 x362012))
end
def signalbenchlaw44_TrigautoHolds.f (k : Nat) (a0_0 : ByteArray) (l0_1 : List (S64)) (l1_0 : List (S139)) (l1_1 : List (S100)) (a2_0 : Int) (a2_1 : Int) (a2_2 : Int) (a2_3 : Int) (a2_4 : Int) (a2_5 : Int) (a2_6 : Int) (a2_7 : ByteArray) (a2_8 : Int) : Option (Bool) := (trigauto_Compile.f k a0_0 l0_1 l1_0 l1_1).bind fun bt352 => (if bt352.2 = 0 then (signalbenchlaw44_TrigautoHolds.l0 k 0 0 a0_0 l0_1 l1_0 l1_1 a2_0 a2_1 a2_2 a2_3 a2_4 a2_5 a2_6 a2_7 a2_8 bt352.1) else (if (bt352.1.length : Int) = 0 then ((signalbenchlaw44_awake.f).bind fun t357 => (some t357)) else (some false)))
def signalbenchlaw44_TrigautoHolds.T15 : Bool × List (List Nat × List Nat) := (true, [([], []), ([0], [0]), ([], []), ([1, 2], [1, 2]), ([], []), ([4], [4]), ([], []), ([], []), ([5, 6, 7, 3], [5, 6, 7]), ([3, 8], [3, 8])])
def signalbenchlaw44_TrigautoHolds.B15 : List Nat := [0, 1, 0, 7, 0, 16, 0, 0, 255, 511]
theorem signalbenchlaw44_TrigautoHolds.tab15 : rtab .any (opsOf Try.f14 15) = signalbenchlaw44_TrigautoHolds.T15 := by kernel_rfl
theorem signalbenchlaw44_TrigautoHolds.bits15 : waitsOk signalbenchlaw44_TrigautoHolds.T15.2 signalbenchlaw44_TrigautoHolds.B15 = true := by kernel_rfl
def signalbenchlaw44_TrigautoHolds.T19 : Bool × List (List Nat × List Nat) := (true, [([], []), ([0], [0]), ([1], [1]), ([2], [2]), ([3, 2], [2, 3]), ([2, 4], [2, 4]), ([5, 2], [5]), ([6], [6]), ([7, 6], [6, 7]), ([6], [6]), ([8, 9, 6, 6], [6, 8, 9]), ([6], [6]), ([11, 6], [6, 11]), ([6], [6]), ([6], [6]), ([12, 13, 14, 10, 6], [6, 12, 13, 14]), ([10, 15, 6], [6, 10, 15]), ([6, 16], [6, 16])])
def signalbenchlaw44_TrigautoHolds.B19 : List Nat := [0, 1, 3, 7, 15, 31, 63, 127, 255, 127, 1023, 127, 2175, 127, 127, 32767, 65535, 131071]
theorem signalbenchlaw44_TrigautoHolds.tab19 : rtab .any (opsOf Try.f14 19) = signalbenchlaw44_TrigautoHolds.T19 := by kernel_rfl
theorem signalbenchlaw44_TrigautoHolds.bits19 : waitsOk signalbenchlaw44_TrigautoHolds.T19.2 signalbenchlaw44_TrigautoHolds.B19 = true := by kernel_rfl
set_option maxHeartbeats 8000000 in
set_option maxRecDepth 100000 in
theorem signalbenchlaw44_TrigautoHolds.calls (k : Nat) (a0_0 : ByteArray) (A0_1 : Option Addr) (c0_1 : Nat) (l0_1 : List (S64)) (A1_0 : Option Addr) (c1_0 : Nat) (l1_0 : List (S139)) (A1_1 : Option Addr) (c1_1 : Nat) (l1_1 : List (S100)) (a2_0 : Int) (a2_1 : Int) (a2_2 : Int) (a2_3 : Int) (a2_4 : Int) (a2_5 : Int) (a2_6 : Int) (a2_7 : ByteArray) (a2_8 : Int) (r : Bool) (w : World) (hr0_1 : Kd.C k64 w A0_1 l0_1.length l0_1) (hc0_1 : l0_1.length ≤ c0_1) (hr1_0 : Kd.C k139 w A1_0 l1_0.length l1_0) (hc1_0 : l1_0.length ≤ c1_0) (hr1_1 : Kd.C k100 w A1_1 l1_1.length l1_1) (hc1_1 : l1_1.length ≤ c1_1) (h : signalbenchlaw44_TrigautoHolds.f k a0_0 l0_1 l1_0 l1_1 a2_0 a2_1 a2_2 a2_3 a2_4 a2_5 a2_6 a2_7 a2_8 = some r) :
  Calls Try.prog 14 #[.agg #[.string a0_0, .slice A0_1 l0_1.length c0_1], .agg #[.slice A1_0 l1_0.length c1_0, .slice A1_1 l1_1.length c1_1], .agg #[.int .i64 a2_0, .int .i64 a2_1, .int .i64 a2_2, .int .i64 a2_3, .int .i64 a2_4, .int .i64 a2_5, .int .i64 a2_6, .string a2_7, .int .i64 a2_8]] w fun e w' => e = .returned (.bool r) ∧ Below w.heap.size w w' := by
 have hu24 := Try.underlying24
 have hu28 := Try.underlying28
 have hu46 := Try.underlying46
 have hu31 := Try.underlying31
 have hu64 := Try.underlying64
 have hu50 := Try.underlying50
 have hu42 := Try.underlying42
 have hu62 := Try.underlying62
 have HR0_1 := Aside0.mk hr0_1
 have HC0_1 := Aside0.mk hc0_1
 clear hr0_1 hc0_1
 have HR1_0 := Aside0.mk hr1_0
 have HC1_0 := Aside0.mk hc1_0
 clear hr1_0 hc1_0
 have HR1_1 := Aside0.mk hr1_1
 have HC1_1 := Aside0.mk hc1_1
 clear hr1_1 hc1_1
 have HB := Aside0.mk (Below.refl w.heap.size w)
 have H : ((trigauto_Compile.f k a0_0 l0_1 l1_0 l1_1).bind fun bt352 => (if bt352.2 = 0 then (signalbenchlaw44_TrigautoHolds.l0 k 0 0 a0_0 l0_1 l1_0 l1_1 a2_0 a2_1 a2_2 a2_3 a2_4 a2_5 a2_6 a2_7 a2_8 bt352.1) else (if (bt352.1.length : Int) = 0 then ((signalbenchlaw44_awake.f).bind fun t357 => (some t357)) else (some false)))) = some r := h
 clear h
 replace H := Option.bind_eq_some_iff.mp H
 obtain ⟨⟨t352, t355⟩, A40, H⟩ := H
 replace H : (if t355 = 0 then (signalbenchlaw44_TrigautoHolds.l0 k 0 0 a0_0 l0_1 l1_0 l1_1 a2_0 a2_1 a2_2 a2_3 a2_4 a2_5 a2_6 a2_7 a2_8 t352) else (if (t352.length : Int) = 0 then ((signalbenchlaw44_awake.f).bind fun t357 => (some t357)) else (some false))) = some r := H
 have A4 := Aside0.mk A40
 clear A40
 by_cases c5 : t355 = 0
 ·
  rw [if_pos c5] at H
  have c5b0 : (t355 == 0) = true := beq_iff_eq.mpr c5
  have c5b1 : (t355 != 0) = false := bne_eq_false_iff_eq.mpr c5
  clear c5
  have H' := Aside0.mk H
  clear H
  go_enter Try.func14, Try.ntmps14
  go_wp2_with (first | ((with_reducible refine gate_dst (N := 3) rfl ?_); refine box_event ?hg (N := 3) ?hd (cs := #[.string a0_0, .slice A0_1 l0_1.length c0_1]) (t := 24) ?hr ?_; (case hd => rfl); (case hg => rfl); (case hr => first | (go_simp; done) | (go_simp; rfl)); intro gb349 hg w6 hbox hb; have n0_ := Aside0.mk (below_step (bs HB.out) hb); have n1_ := Aside0.mk (hbox); have n2_ := Aside0.mk ((by rw [hg]; exact (below_size (bs HB.out)) : w.heap.size ≤ gb349)); have n3_ := n2_; clear HB; have HB := n0_; have BK349 := n1_; have GW349 := n2_; have GE349 := n3_; clear n0_ n1_ n2_ n3_; clear hb hbox hg) | ((with_reducible refine gate_dst (N := 4) rfl ?_); refine box_event ?hg (N := 4) ?hd (cs := #[.slice A1_0 l1_0.length c1_0, .slice A1_1 l1_1.length c1_1]) (t := 28) ?hr ?_; (case hd => rfl); (case hg => rfl); (case hr => first | (go_simp; done) | (go_simp; rfl)); intro gb350 hg w7 hbox hb; have n0_ := Aside0.mk (blk_below (bg BK349.out) hb); have n1_ := Aside0.mk (below_step (bs HB.out) hb); have n2_ := Aside0.mk (hbox); have n3_ := Aside0.mk ((by rw [hg]; exact (below_size (bs HB.out)) : w.heap.size ≤ gb350)); have n4_ := n3_; have n5_ := Aside0.mk ((by rw [hg]; exact Nat.ne_of_lt (blk_lt (bg BK349.out)) : gb349 ≠ gb350)); have n6_ := Aside0.mk ((by rw [hg]; exact Nat.ne_of_gt (blk_lt (bg BK349.out)) : gb350 ≠ gb349)); clear BK349; clear HB; have BK349 := n0_; have HB := n1_; have BK350 := n2_; have GW350 := n3_; have GE350 := n4_; have NB349_350 := n5_; have NB350_349 := n6_; clear n0_ n1_ n2_ n3_ n4_ n5_ n6_; clear hb hbox hg) | ((with_reducible refine gate_dst (N := 5) rfl ?_); refine box_event ?hg (N := 5) ?hd (cs := #[.int .i64 a2_0, .int .i64 a2_1, .int .i64 a2_2, .int .i64 a2_3, .int .i64 a2_4, .int .i64 a2_5, .int .i64 a2_6, .string a2_7, .int .i64 a2_8]) (t := 46) ?hr ?_; (case hd => rfl); (case hg => rfl); (case hr => first | (go_simp; done) | (go_simp; rfl)); intro gb351 hg w8 hbox hb; have n0_ := Aside0.mk (blk_below (bg BK349.out) hb); have n1_ := Aside0.mk (blk_below (bg BK350.out) hb); have n2_ := Aside0.mk (below_step (bs HB.out) hb); have n3_ := Aside0.mk (hbox); have n4_ := Aside0.mk ((by rw [hg]; exact (below_size (bs HB.out)) : w.heap.size ≤ gb351)); have n5_ := n4_; have n6_ := Aside0.mk ((by rw [hg]; exact Nat.ne_of_lt (blk_lt (bg BK349.out)) : gb349 ≠ gb351)); have n7_ := Aside0.mk ((by rw [hg]; exact Nat.ne_of_gt (blk_lt (bg BK349.out)) : gb351 ≠ gb349)); have n8_ := Aside0.mk ((by rw [hg]; exact Nat.ne_of_lt (blk_lt (bg BK350.out)) : gb350 ≠ gb351)); have n9_ := Aside0.mk ((by rw [hg]; exact Nat.ne_of_gt (blk_lt (bg BK350.out)) : gb351 ≠ gb350)); clear BK349; clear BK350; clear HB; have BK349 := n0_; have BK350 := n1_; have HB := n2_; have BK351 := n3_; have GW351 := n4_; have GE351 := n5_; have NB349_351 := n6_; have NB351_349 := n7_; have NB350_351 := n8_; have NB351_350 := n9_; clear n0_ n1_ n2_ n3_ n4_ n5_ n6_ n7_ n8_ n9_; clear hb hbox hg; have hnb9 := NB349_350.out; have hnc9 := NB350_349.out; have hnb10 := NB349_351.out; have hnc10 := NB351_349.out; obtain ⟨hcz11_0, hcz11_1⟩ := bc2 BK349.out; obtain ⟨hfz11_0, hfz11_1⟩ := bf2 BK349.out; have hnb12 := NB350_351.out; have hnc12 := NB351_350.out; obtain ⟨hcz13_0, hcz13_1⟩ := bc2 BK350.out; obtain ⟨hfz13_0, hfz13_1⟩ := bf2 BK350.out) | ((with_reducible refine gate_callee (f := 16) rfl ?_); refine goesL_ (some 17) rfl rfl Try.func16 (by kernel_rfl) rfl #[.agg #[.string a0_0, .slice A0_1 l0_1.length c0_1], .agg #[.slice A1_0 l1_0.length c1_0, .slice A1_1 l1_1.length c1_1]] rfl (by (try simp only [List.map_toArray, List.map_cons, List.map_nil]); first | done | rfl | (simp only [List.length_drop, List.length_take]; rfl)) ?_; (with_reducible refine (trigauto_Compile.calls k a0_0 _ _ l0_1 _ _ l1_0 _ _ l1_1 t352 t355 _ ?side1 ?side2 ?side3 ?side4 ?side5 ?side6 A4.out).mono ?_); (case side1 => repeat (first | exact (Kd.C_below HR0_1.out HB.out) | (with_reducible refine Kd.C_alloc ?_ _) | (with_reducible refine Kd.C_drewN ?_ _) | (with_reducible refine Kd.C_drew ?_))); (case side2 => exact HC0_1.out); (case side3 => repeat (first | exact (Kd.C_below HR1_0.out HB.out) | (with_reducible refine Kd.C_alloc ?_ _) | (with_reducible refine Kd.C_drewN ?_ _) | (with_reducible refine Kd.C_drew ?_))); (case side4 => exact HC1_0.out); (case side5 => repeat (first | exact (Kd.C_below HR1_1.out HB.out) | (with_reducible refine Kd.C_alloc ?_ _) | (with_reducible refine Kd.C_drewN ?_ _) | (with_reducible refine Kd.C_drew ?_))); (case side6 => exact HC1_1.out); rintro e w14 ⟨v353, rfl, ho0, hb⟩; refine ⟨_, rfl, ?_⟩; have n0_ := Aside0.mk (Kd.R_lower ho0 (below_size (bs HB.out))); have n1_ := Aside0.mk (blk_below (bg BK349.out) hb); have n2_ := Aside0.mk (blk_below (bg BK350.out) hb); have n3_ := Aside0.mk (blk_below (bg BK351.out) hb); have n4_ := Aside0.mk (below_step (bs HB.out) hb); clear BK349; clear BK350; clear BK351; clear HB; have HO354 := n0_; have BK349 := n1_; have BK350 := n2_; have BK351 := n3_; have HB := n4_; clear n0_ n1_ n2_ n3_ n4_; (try clear hb); (try clear hb2); (try clear hk); (try clear hi); (try clear ho0)) | ((with_reducible refine gate_dst (N := 7) rfl ?_); refine box_event ?hg (N := 7) ?hd (cs := #[.slice none 0 0]) (t := 31) ?hr ?_; (case hd => rfl); (case hg => rfl); (case hr => first | (go_simp; done) | (go_simp; rfl)); intro gb356 hg w15 hbox hb; have n0_ := Aside0.mk (Kd.R_below (by (with_reducible repeat (first | apply Kd.R_alloc | apply Kd.R_drewN | apply Kd.R_drew)); exact HO354.out) hb); have n1_ := Aside0.mk (blk_below (bg BK349.out) hb); have n2_ := Aside0.mk (blk_below (bg BK350.out) hb); have n3_ := Aside0.mk (blk_below (bg BK351.out) hb); have n4_ := Aside0.mk (below_step (bs HB.out) hb); have n5_ := Aside0.mk (hbox); have n6_ := Aside0.mk ((by rw [hg]; exact (below_size (bs HB.out)) : w.heap.size ≤ gb356)); have n7_ := n6_; have n8_ := Aside0.mk ((by rw [hg]; exact Nat.ne_of_lt (blk_lt (bg BK349.out)) : gb349 ≠ gb356)); have n9_ := Aside0.mk ((by rw [hg]; exact Nat.ne_of_gt (blk_lt (bg BK349.out)) : gb356 ≠ gb349)); have n10_ := Aside0.mk ((by rw [hg]; exact Nat.ne_of_lt (blk_lt (bg BK350.out)) : gb350 ≠ gb356)); have n11_ := Aside0.mk ((by rw [hg]; exact Nat.ne_of_gt (blk_lt (bg BK350.out)) : gb356 ≠ gb350)); have n12_ := Aside0.mk ((by rw [hg]; exact Nat.ne_of_lt (blk_lt (bg BK351.out)) : gb351 ≠ gb356)); have n13_ := Aside0.mk ((by rw [hg]; exact Nat.ne_of_gt (blk_lt (bg BK351.out)) : gb356 ≠ gb351)); clear HO354; clear BK349; clear BK350; clear BK351; clear HB; have HO354 := n0_; have BK349 := n1_; have BK350 := n2_; have BK351 := n3_; have HB := n4_; have BK356 := n5_; have GW356 := n6_; have GE356 := n7_; have NB349_356 := n8_; have NB356_349 := n9_; have NB350_356 := n10_; have NB356_350 := n11_; have NB351_356 := n12_; have NB356_351 := n13_; clear n0_ n1_ n2_ n3_ n4_ n5_ n6_ n7_ n8_ n9_ n10_ n11_ n12_ n13_; clear hb hbox hg; obtain ⟨Ao16, co16, eo16⟩ := Kd.R_slice HO354.out; subst eo16; have hnb17 := NB356_349.out; have hnc17 := NB349_356.out; have hnb18 := NB356_350.out; have hnc18 := NB350_356.out; have hnb19 := NB356_351.out; have hnc19 := NB351_356.out; have hcz20_0 : w15.cell? ⟨gb356, 0, none⟩ = some (.slice none 0 0) := (blk_cell BK356.out 0).trans rfl; have hfz20_0 := blk_frozen BK356.out 0))
  go_loopg [9, 10] k (fun kq v9 v10 w' => ∃ (x9_1 : Int) (x10_1 : Int), v9 = .int .i64 x9_1 ∧ v10 = .int .i64 x10_1 ∧ Aside0 (signalbenchlaw44_TrigautoHolds.l0 kq x9_1 x10_1 a0_0 l0_1 l1_0 l1_1 a2_0 a2_1 a2_2 a2_3 a2_4 a2_5 a2_6 a2_7 a2_8 t352 = some r) ∧ Aside0 (kq ≤ k) ∧ Aside0 (Kd.R k50 50 w' w.heap.size (fun _ => True) (.slice Ao16 t352.length co16) t352) ∧ Aside0 (w'.heap[gb349]? = some (.cells #[.string a0_0, (.slice A0_1 l0_1.length c0_1)] 24 (0, 0))) ∧ Aside0 (w'.heap[gb350]? = some (.cells #[(.slice A1_0 l1_0.length c1_0), (.slice A1_1 l1_1.length c1_1)] 28 (0, 0))) ∧ Aside0 (w'.heap[gb351]? = some (.cells #[.int .i64 a2_0, .int .i64 a2_1, .int .i64 a2_2, .int .i64 a2_3, .int .i64 a2_4, .int .i64 a2_5, .int .i64 a2_6, .string a2_7, .int .i64 a2_8] 46 (0, 0))) ∧ Aside0 (w'.heap[gb356]? = some (.cells #[(.slice Ao16 t352.length co16)] 31 (0, 0))) ∧ Aside0 (Below w.heap.size w w'))
  case atStart => exact ⟨(0), (0), (by first | rfl | (simp; done) | (simp [*]; done)), (by first | rfl | (simp; done) | (simp [*]; done)), H', ⟨Nat.le_refl _⟩, ⟨by (with_reducible repeat (first | apply Kd.R_alloc | apply Kd.R_drewN | apply Kd.R_drew)); exact Kd.R_mono (Kd.R_far (p := ⟨gb356, 0, none⟩) (Kd.R_types HO354.out BK356.out (by decide)) (fun _ hk => hk.2) (.slice Ao16 t352.length co16)) (fun _ hk => trivial)⟩, ⟨by (with_reducible repeat (first | refine blk_drewN ?_ _ | refine blk_drew ?_ | refine blk_alloc ?_ _)); refine blk_far ?_ NB349_356.out _; exact bg BK349.out⟩, ⟨by (with_reducible repeat (first | refine blk_drewN ?_ _ | refine blk_drew ?_ | refine blk_alloc ?_ _)); refine blk_far ?_ NB350_356.out _; exact bg BK350.out⟩, ⟨by (with_reducible repeat (first | refine blk_drewN ?_ _ | refine blk_drew ?_ | refine blk_alloc ?_ _)); refine blk_far ?_ NB351_356.out _; exact bg BK351.out⟩, ⟨by (with_reducible repeat (first | refine blk_drewN ?_ _ | refine blk_drew ?_ | refine blk_alloc ?_ _)); refine blk_put (cs := #[.slice none 0 0]) ?_ 0 _ rfl; exact bg BK356.out⟩, ⟨bs HB.out⟩⟩
  case round =>
   clear H'
   try clear c1
   try clear p2
   try clear c5
   try clear c5b0
   try clear c5b1
   try clear c9
   try clear c10
   try clear c12
   try clear c14
   try clear c16
   try clear c17
   try clear c18
   try clear c19
   try clear hcz11_0 hcz11_1
   try clear hcz13_0 hcz13_1
   try clear hcz20_0
   try clear hfz11_0 hfz11_1
   try clear hfz13_0 hfz13_1
   try clear hfz20_0
   obtain ⟨x9_1, x10_1, rfl, rfl, HA, HK1, HO_357000, BK349, BK350, BK351, BK356, HB⟩ := hrel
   cases gk with
   | zero => exact absurd HA.out (by simp [signalbenchlaw44_TrigautoHolds.l0])
   | succ k1 =>
    have H := HA.out
    clear HA
    simp only [signalbenchlaw44_TrigautoHolds.l0] at H
    by_cases c21 : x10_1 < (l0_1.length : Int)
    ·
     rw [if_pos c21] at H
     have c21b0 : decide (x10_1 < (l0_1.length : Int)) = true := decide_eq_true c21
     clear c21
     by_cases c22 : 0 ≤ x10_1
     ·
      rw [if_pos c22] at H
      have c22b0 : decide (0 ≤ x10_1) = true := decide_eq_true c22
      clear c22
      have H' := Aside0.mk H
      clear H
      have hnb23 := NB349_350.out
      have hnc23 := NB350_349.out
      have hnb24 := NB349_351.out
      have hnc24 := NB351_349.out
      have hnb25 := NB349_356.out
      have hnc25 := NB356_349.out
      obtain ⟨hcz26_0, hcz26_1⟩ := bc2 BK349.out
      obtain ⟨hfz26_0, hfz26_1⟩ := bf2 BK349.out
      have p360 : 0 ≤ (x10_1 : Int) := of_decide_eq_true (by first | (with_reducible assumption) | assumption)
      have q360 : x10_1 < (l0_1.length : Int) := of_decide_eq_true (by first | (with_reducible assumption) | assumption)
      obtain ⟨ad360, e360, hx360_0, hx360_1, hx360_2, hx360_3, hx360_4, hx360_5, hx360_6, hx360_7, hx360_8, hx360_9, hx360_10, hx360_11, hx360_12⟩ := at_T64 HR0_1.out x10_1 p360 q360
      cases e360
      replace hx360_0 := pw_cell_below HB.out hx360_0
      replace hx360_1 := pw_cell_below HB.out hx360_1
      replace hx360_2 := pw_cell_below HB.out hx360_2
      replace hx360_3 := pw_cell_below HB.out hx360_3
      replace hx360_4 := pw_cell_below HB.out hx360_4
      replace hx360_5 := pw_cell_below HB.out hx360_5
      replace hx360_6 := pw_cell_below HB.out hx360_6
      replace hx360_7 := pw_cell_below HB.out hx360_7
      replace hx360_8 := pw_cell_below HB.out hx360_8
      replace hx360_9 := pw_cell_below HB.out hx360_9
      replace hx360_10 := pw_cell_below HB.out hx360_10
      replace hx360_11 := pw_cell_below HB.out hx360_11
      replace hx360_12 := pw_cell_below HB.out hx360_12
      replace p360 := eq_true p360
      replace q360 := eq_true q360
      go_wp2_with (first | ((with_reducible refine gate_dst (N := 11) rfl ?_); refine box_event ?hg (N := 11) ?hd (cs := #[.string (⟨#[]⟩ : ByteArray), .int .i64 0, .int .i64 0, .int .i64 0, .int .i64 0, .int .i64 0, .int .i64 0, .bool false, .string (⟨#[]⟩ : ByteArray), .int .i64 0, .int .i64 0, .int .i64 0, .int .i64 0]) (t := 64) ?hr ?_; (case hd => rfl); (case hg => rfl); (case hr => first | (go_simp; done) | (go_simp; rfl)); intro gb361 hg w27 hbox hb; have n0_ := Aside0.mk (Kd.R_below (by (with_reducible repeat (first | apply Kd.R_alloc | apply Kd.R_drewN | apply Kd.R_drew)); exact HO_357000.out) hb); have n1_ := Aside0.mk (blk_below (bg BK349.out) hb); have n2_ := Aside0.mk (blk_below (bg BK350.out) hb); have n3_ := Aside0.mk (blk_below (bg BK351.out) hb); have n4_ := Aside0.mk (blk_below (bg BK356.out) hb); have n5_ := Aside0.mk (below_step (bs HB.out) hb); have n6_ := Aside0.mk (hbox); have n7_ := Aside0.mk ((by rw [hg]; exact (below_size (bs HB.out)) : w.heap.size ≤ gb361)); have n8_ := n7_; have n9_ := Aside0.mk ((by rw [hg]; exact Nat.ne_of_lt (blk_lt (bg BK349.out)) : gb349 ≠ gb361)); have n10_ := Aside0.mk ((by rw [hg]; exact Nat.ne_of_gt (blk_lt (bg BK349.out)) : gb361 ≠ gb349)); have n11_ := Aside0.mk ((by rw [hg]; exact Nat.ne_of_lt (blk_lt (bg BK350.out)) : gb350 ≠ gb361)); have n12_ := Aside0.mk ((by rw [hg]; exact Nat.ne_of_gt (blk_lt (bg BK350.out)) : gb361 ≠ gb350)); have n13_ := Aside0.mk ((by rw [hg]; exact Nat.ne_of_lt (blk_lt (bg BK351.out)) : gb351 ≠ gb361)); have n14_ := Aside0.mk ((by rw [hg]; exact Nat.ne_of_gt (blk_lt (bg BK351.out)) : gb361 ≠ gb351)); have n15_ := Aside0.mk ((by rw [hg]; exact Nat.ne_of_lt (blk_lt (bg BK356.out)) : gb356 ≠ gb361)); have n16_ := Aside0.mk ((by rw [hg]; exact Nat.ne_of_gt (blk_lt (bg BK356.out)) : gb361 ≠ gb356)); clear HO_357000; clear BK349; clear BK350; clear BK351; clear BK356; clear HB; have HO_357000 := n0_; have BK349 := n1_; have BK350 := n2_; have BK351 := n3_; have BK356 := n4_; have HB := n5_; have BK361 := n6_; have GW361 := n7_; have GE361 := n8_; have NB349_361 := n9_; have NB361_349 := n10_; have NB350_361 := n11_; have NB361_350 := n12_; have NB351_361 := n13_; have NB361_351 := n14_; have NB356_361 := n15_; have NB361_356 := n16_; clear n0_ n1_ n2_ n3_ n4_ n5_ n6_ n7_ n8_ n9_ n10_ n11_ n12_ n13_ n14_ n15_ n16_; clear hb hbox hg; have hnb28 := NB361_349.out; have hnc28 := NB349_361.out; have hnb29 := NB361_350.out; have hnc29 := NB350_361.out; have hnb30 := NB361_351.out; have hnc30 := NB351_361.out; have hnb31 := NB361_356.out; have hnc31 := NB356_361.out; obtain ⟨hcz32_0, hcz32_1, hcz32_2, hcz32_3, hcz32_4, hcz32_5, hcz32_6, hcz32_7, hcz32_8, hcz32_9, hcz32_10, hcz32_11, hcz32_12⟩ := bc13 BK361.out; obtain ⟨hfz32_0, hfz32_1, hfz32_2, hfz32_3, hfz32_4, hfz32_5, hfz32_6, hfz32_7, hfz32_8, hfz32_9, hfz32_10, hfz32_11, hfz32_12⟩ := bf13 BK361.out))
      go_loopg [9, 12] k1 (fun kq v9 v12 w' => ∃ (x9_2 : Int) (x12_2 : Int), v9 = .int .i64 x9_2 ∧ v12 = .int .i64 x12_2 ∧ Aside0 (signalbenchlaw44_TrigautoHolds.l1 kq x9_2 x10_1 x12_2 a0_0 l0_1 l1_0 l1_1 a2_0 a2_1 a2_2 a2_3 a2_4 a2_5 a2_6 a2_7 a2_8 t352 ((rd_T64 l0_1 x10_1).f0.f0) ((rd_T64 l0_1 x10_1).f0.f1) ((rd_T64 l0_1 x10_1).f0.f2) ((rd_T64 l0_1 x10_1).f0.f3) ((rd_T64 l0_1 x10_1).f0.f4) ((rd_T64 l0_1 x10_1).f1) ((rd_T64 l0_1 x10_1).f2) ((rd_T64 l0_1 x10_1).f3) ((rd_T64 l0_1 x10_1).f4.f0) ((rd_T64 l0_1 x10_1).f4.f1) ((rd_T64 l0_1 x10_1).f4.f2) ((rd_T64 l0_1 x10_1).f4.f3) ((rd_T64 l0_1 x10_1).f4.f4) = some r) ∧ Aside0 (kq ≤ k1) ∧ Aside0 (Kd.R k50 50 w' w.heap.size (fun _ => True) (.slice Ao16 t352.length co16) t352) ∧ Aside0 (w'.heap[gb349]? = some (.cells #[.string a0_0, (.slice (some ad360) l0_1.length c0_1)] 24 (0, 0))) ∧ Aside0 (w'.heap[gb350]? = some (.cells #[(.slice A1_0 l1_0.length c1_0), (.slice A1_1 l1_1.length c1_1)] 28 (0, 0))) ∧ Aside0 (w'.heap[gb351]? = some (.cells #[.int .i64 a2_0, .int .i64 a2_1, .int .i64 a2_2, .int .i64 a2_3, .int .i64 a2_4, .int .i64 a2_5, .int .i64 a2_6, .string a2_7, .int .i64 a2_8] 46 (0, 0))) ∧ Aside0 (w'.heap[gb356]? = some (.cells #[(.slice Ao16 t352.length co16)] 31 (0, 0))) ∧ Aside0 (w'.heap[gb361]? = some (.cells #[.string ((rd_T64 l0_1 x10_1).f0.f0), .int .i64 ((rd_T64 l0_1 x10_1).f0.f1), .int .i64 ((rd_T64 l0_1 x10_1).f0.f2), .int .i64 ((rd_T64 l0_1 x10_1).f0.f3), .int .i64 ((rd_T64 l0_1 x10_1).f0.f4), .int .i64 ((rd_T64 l0_1 x10_1).f1), .int .i64 ((rd_T64 l0_1 x10_1).f2), .bool ((rd_T64 l0_1 x10_1).f3), .string ((rd_T64 l0_1 x10_1).f4.f0), .int .i64 ((rd_T64 l0_1 x10_1).f4.f1), .int .i64 ((rd_T64 l0_1 x10_1).f4.f2), .int .i64 ((rd_T64 l0_1 x10_1).f4.f3), .int .i64 ((rd_T64 l0_1 x10_1).f4.f4)] 64 (0, 0))) ∧ Aside0 (Below w.heap.size w w'))
      case atStart => exact ⟨(x9_1), (0), (by first | rfl | (simp; done) | (simp [*]; done)), (by first | rfl | (simp; done) | (simp [*]; done)), H', ⟨Nat.le_refl _⟩, ⟨by (with_reducible repeat (first | apply Kd.R_alloc | apply Kd.R_drewN | apply Kd.R_drew)); exact Kd.R_mono (Kd.R_far (p := ⟨gb361, 12, none⟩) (Kd.R_far (p := ⟨gb361, 11, none⟩) (Kd.R_far (p := ⟨gb361, 10, none⟩) (Kd.R_far (p := ⟨gb361, 9, none⟩) (Kd.R_far (p := ⟨gb361, 8, none⟩) (Kd.R_far (p := ⟨gb361, 7, none⟩) (Kd.R_far (p := ⟨gb361, 6, none⟩) (Kd.R_far (p := ⟨gb361, 5, none⟩) (Kd.R_far (p := ⟨gb361, 4, none⟩) (Kd.R_far (p := ⟨gb361, 3, none⟩) (Kd.R_far (p := ⟨gb361, 2, none⟩) (Kd.R_far (p := ⟨gb361, 1, none⟩) (Kd.R_far (p := ⟨gb361, 0, none⟩) (Kd.R_types HO_357000.out BK361.out (by decide)) (fun _ hk => hk.2) (.string ((rd_T64 l0_1 x10_1).f0.f0))) (fun _ hk => hk.2) (.int .i64 ((rd_T64 l0_1 x10_1).f0.f1))) (fun _ hk => hk.2) (.int .i64 ((rd_T64 l0_1 x10_1).f0.f2))) (fun _ hk => hk.2) (.int .i64 ((rd_T64 l0_1 x10_1).f0.f3))) (fun _ hk => hk.2) (.int .i64 ((rd_T64 l0_1 x10_1).f0.f4))) (fun _ hk => hk.2) (.int .i64 ((rd_T64 l0_1 x10_1).f1))) (fun _ hk => hk.2) (.int .i64 ((rd_T64 l0_1 x10_1).f2))) (fun _ hk => hk.2) (.bool ((rd_T64 l0_1 x10_1).f3))) (fun _ hk => hk.2) (.string ((rd_T64 l0_1 x10_1).f4.f0))) (fun _ hk => hk.2) (.int .i64 ((rd_T64 l0_1 x10_1).f4.f1))) (fun _ hk => hk.2) (.int .i64 ((rd_T64 l0_1 x10_1).f4.f2))) (fun _ hk => hk.2) (.int .i64 ((rd_T64 l0_1 x10_1).f4.f3))) (fun _ hk => hk.2) (.int .i64 ((rd_T64 l0_1 x10_1).f4.f4))) (fun _ hk => trivial)⟩, ⟨by (iterate 13 (with_reducible repeat (first | refine blk_drewN ?_ _ | refine blk_drew ?_ | refine blk_alloc ?_ _)); refine blk_far ?_ NB349_361.out _); exact bg BK349.out⟩, ⟨by (iterate 13 (with_reducible repeat (first | refine blk_drewN ?_ _ | refine blk_drew ?_ | refine blk_alloc ?_ _)); refine blk_far ?_ NB350_361.out _); exact bg BK350.out⟩, ⟨by (iterate 13 (with_reducible repeat (first | refine blk_drewN ?_ _ | refine blk_drew ?_ | refine blk_alloc ?_ _)); refine blk_far ?_ NB351_361.out _); exact bg BK351.out⟩, ⟨by (iterate 13 (with_reducible repeat (first | refine blk_drewN ?_ _ | refine blk_drew ?_ | refine blk_alloc ?_ _)); refine blk_far ?_ NB356_361.out _); exact bg BK356.out⟩, ⟨by exact pt13 (bg BK361.out)⟩, ⟨bs HB.out⟩⟩
      case round =>
       clear H'
       try clear c1
       try clear c2
       try clear p2
       try clear c3
       try clear p3
       try clear q3
       try clear hx3
       try clear c5
       try clear c5b0
       try clear c5b1
       try clear c9
       try clear c10
       try clear c12
       try clear c14
       try clear c16
       try clear c17
       try clear c18
       try clear c19
       try clear c21
       try clear c21b0
       try clear c22
       try clear c22b0
       try clear c23
       try clear c24
       try clear c25
       try clear c28
       try clear c29
       try clear c30
       try clear c31
       try clear hcz11_0 hcz11_1
       try clear hcz13_0 hcz13_1
       try clear hcz20_0
       try clear hcz26_0 hcz26_1
       try clear hcz32_0 hcz32_1 hcz32_10 hcz32_11 hcz32_12 hcz32_2 hcz32_3 hcz32_4 hcz32_5 hcz32_6 hcz32_7 hcz32_8 hcz32_9
       try clear hfz11_0 hfz11_1
       try clear hfz13_0 hfz13_1
       try clear hfz20_0
       try clear hfz26_0 hfz26_1
       try clear hfz32_0 hfz32_1 hfz32_10 hfz32_11 hfz32_12 hfz32_2 hfz32_3 hfz32_4 hfz32_5 hfz32_6 hfz32_7 hfz32_8 hfz32_9
       try clear hx360_0
       try clear hx360_1
       try clear hx360_10
       try clear hx360_11
       try clear hx360_12
       try clear hx360_2
       try clear hx360_3
       try clear hx360_4
       try clear hx360_5
       try clear hx360_6
       try clear hx360_7
       try clear hx360_8
       try clear hx360_9
       try clear p2
       try clear p360
       try clear q360
       obtain ⟨x9_2, x12_2, rfl, rfl, HA, HK2, HO_357000, BK349, BK350, BK351, BK356, BK361, HB⟩ := hrel
       cases gk with
       | zero => exact absurd HA.out (by simp [signalbenchlaw44_TrigautoHolds.l1])
       | succ k2 =>
        have H := HA.out
        clear HA
        simp only [signalbenchlaw44_TrigautoHolds.l1] at H
        by_cases c33 : x12_2 < ((rd_T64 l0_1 x10_1).f1)
        ·
         rw [if_pos c33] at H
         have c33b0 : decide (x12_2 < ((rd_T64 l0_1 x10_1).f1)) = true := decide_eq_true c33
         clear c33
         by_cases c34 : x9_2 ≥ (t352.length : Int)
         ·
          rw [if_pos c34] at H
          have c34b0 : decide ((t352.length : Int) ≤ x9_2) = true := decide_eq_true c34
          clear c34
          obtain rfl := Option.some.inj H
          have hnb35 := NB361_349.out
          have hnc35 := NB349_361.out
          have hnb36 := NB361_350.out
          have hnc36 := NB350_361.out
          have hnb37 := NB361_351.out
          have hnc37 := NB351_361.out
          have hnb38 := NB361_356.out
          have hnc38 := NB356_361.out
          obtain ⟨hcz39_0, hcz39_1, hcz39_2, hcz39_3, hcz39_4, hcz39_5, hcz39_6, hcz39_7, hcz39_8, hcz39_9, hcz39_10, hcz39_11, hcz39_12⟩ := bc13 BK361.out
          obtain ⟨hfz39_0, hfz39_1, hfz39_2, hfz39_3, hfz39_4, hfz39_5, hfz39_6, hfz39_7, hfz39_8, hfz39_9, hfz39_10, hfz39_11, hfz39_12⟩ := bf13 BK361.out
          have hnb40 := NB356_349.out
          have hnc40 := NB349_356.out
          have hnb41 := NB356_350.out
          have hnc41 := NB350_356.out
          have hnb42 := NB356_351.out
          have hnc42 := NB351_356.out
          have hcz43_0 : wr.cell? ⟨gb356, 0, none⟩ = some (.slice Ao16 t352.length co16) := (blk_cell BK356.out 0).trans rfl
          have hfz43_0 := blk_frozen BK356.out 0
          go_wp2
          go_ret
          exact ⟨by first | rfl | (simp [errW_none, errW_some] <;> rfl) | (simp [*, errW_none, errW_some] <;> rfl), bs HB.out⟩
         ·
          rw [if_neg c34] at H
          have c34b0 : decide ((t352.length : Int) ≤ x9_2) = false := decide_eq_false c34
          clear c34
          by_cases c44 : 0 ≤ x9_2
          ·
           rw [if_pos c44] at H
           have c44b0 : decide (0 ≤ x9_2) = true := decide_eq_true c44
           clear c44
           by_cases c45 : x9_2 < (t352.length : Int)
           ·
            rw [if_pos c45] at H
            have c45b0 : decide (x9_2 < (t352.length : Int)) = true := decide_eq_true c45
            clear c45
            replace H := Option.bind_eq_some_iff.mp H
            obtain ⟨t364, A460, H⟩ := H
            replace H : ((trig_Holds.f k2 ((rd_T64 l0_1 x10_1).f0.f0) ((rd_T64 l0_1 x10_1).f0.f1) ((rd_T64 l0_1 x10_1).f0.f2) ((rd_T64 l0_1 x10_1).f0.f3) ((rd_T64 l0_1 x10_1).f0.f4) l1_0 l1_1 a2_0 a2_1 a2_2 a2_3 a2_4 a2_5 a2_6 a2_7 a2_8).bind fun t365 => (if (t364 != t365) = true then (some false) else (if x9_2 > 0 then (if ((rd_T50 t352 x9_2).f1) = ((rd_T64 l0_1 x10_1).f2) then (signalbenchlaw44_TrigautoHolds.j2 k2 x9_2 x10_1 x12_2 (((rd_T50 t352 x9_2).f2) != ((rd_T64 l0_1 x10_1).f3)) a0_0 l0_1 l1_0 l1_1 a2_0 a2_1 a2_2 a2_3 a2_4 a2_5 a2_6 a2_7 a2_8 t352 ((rd_T64 l0_1 x10_1).f0.f0) ((rd_T64 l0_1 x10_1).f0.f1) ((rd_T64 l0_1 x10_1).f0.f2) ((rd_T64 l0_1 x10_1).f0.f3) ((rd_T64 l0_1 x10_1).f0.f4) ((rd_T64 l0_1 x10_1).f1) ((rd_T64 l0_1 x10_1).f2) ((rd_T64 l0_1 x10_1).f3) ((rd_T64 l0_1 x10_1).f4.f0) ((rd_T64 l0_1 x10_1).f4.f1) ((rd_T64 l0_1 x10_1).f4.f2) ((rd_T64 l0_1 x10_1).f4.f3) ((rd_T64 l0_1 x10_1).f4.f4) ((rd_T50 t352 x9_2).f0.f0) ((rd_T50 t352 x9_2).f0.f1) ((rd_T50 t352 x9_2).f0.f2) ((rd_T50 t352 x9_2).f0.f3) ((rd_T50 t352 x9_2).f0.f4) ((rd_T50 t352 x9_2).f1) ((rd_T50 t352 x9_2).f2) ((rd_T50 t352 x9_2).f3.f0) ((rd_T50 t352 x9_2).f3.f1) ((rd_T50 t352 x9_2).f3.f2) ((rd_T50 t352 x9_2).f3.f3) ((rd_T50 t352 x9_2).f3.f4)) else (signalbenchlaw44_TrigautoHolds.j2 k2 x9_2 x10_1 x12_2 true a0_0 l0_1 l1_0 l1_1 a2_0 a2_1 a2_2 a2_3 a2_4 a2_5 a2_6 a2_7 a2_8 t352 ((rd_T64 l0_1 x10_1).f0.f0) ((rd_T64 l0_1 x10_1).f0.f1) ((rd_T64 l0_1 x10_1).f0.f2) ((rd_T64 l0_1 x10_1).f0.f3) ((rd_T64 l0_1 x10_1).f0.f4) ((rd_T64 l0_1 x10_1).f1) ((rd_T64 l0_1 x10_1).f2) ((rd_T64 l0_1 x10_1).f3) ((rd_T64 l0_1 x10_1).f4.f0) ((rd_T64 l0_1 x10_1).f4.f1) ((rd_T64 l0_1 x10_1).f4.f2) ((rd_T64 l0_1 x10_1).f4.f3) ((rd_T64 l0_1 x10_1).f4.f4) ((rd_T50 t352 x9_2).f0.f0) ((rd_T50 t352 x9_2).f0.f1) ((rd_T50 t352 x9_2).f0.f2) ((rd_T50 t352 x9_2).f0.f3) ((rd_T50 t352 x9_2).f0.f4) ((rd_T50 t352 x9_2).f1) ((rd_T50 t352 x9_2).f2) ((rd_T50 t352 x9_2).f3.f0) ((rd_T50 t352 x9_2).f3.f1) ((rd_T50 t352 x9_2).f3.f2) ((rd_T50 t352 x9_2).f3.f3) ((rd_T50 t352 x9_2).f3.f4))) else (signalbenchlaw44_TrigautoHolds.j2 k2 x9_2 x10_1 x12_2 false a0_0 l0_1 l1_0 l1_1 a2_0 a2_1 a2_2 a2_3 a2_4 a2_5 a2_6 a2_7 a2_8 t352 ((rd_T64 l0_1 x10_1).f0.f0) ((rd_T64 l0_1 x10_1).f0.f1) ((rd_T64 l0_1 x10_1).f0.f2) ((rd_T64 l0_1 x10_1).f0.f3) ((rd_T64 l0_1 x10_1).f0.f4) ((rd_T64 l0_1 x10_1).f1) ((rd_T64 l0_1 x10_1).f2) ((rd_T64 l0_1 x10_1).f3) ((rd_T64 l0_1 x10_1).f4.f0) ((rd_T64 l0_1 x10_1).f4.f1) ((rd_T64 l0_1 x10_1).f4.f2) ((rd_T64 l0_1 x10_1).f4.f3) ((rd_T64 l0_1 x10_1).f4.f4) ((rd_T50 t352 x9_2).f0.f0) ((rd_T50 t352 x9_2).f0.f1) ((rd_T50 t352 x9_2).f0.f2) ((rd_T50 t352 x9_2).f0.f3) ((rd_T50 t352 x9_2).f0.f4) ((rd_T50 t352 x9_2).f1) ((rd_T50 t352 x9_2).f2) ((rd_T50 t352 x9_2).f3.f0) ((rd_T50 t352 x9_2).f3.f1) ((rd_T50 t352 x9_2).f3.f2) ((rd_T50 t352 x9_2).f3.f3) ((rd_T50 t352 x9_2).f3.f4))))) = some r := H
            have A46 := Aside0.mk A460
            clear A460
            replace H := Option.bind_eq_some_iff.mp H
            obtain ⟨t365, A470, H⟩ := H
            replace H : (if (t364 != t365) = true then (some false) else (if x9_2 > 0 then (if ((rd_T50 t352 x9_2).f1) = ((rd_T64 l0_1 x10_1).f2) then (signalbenchlaw44_TrigautoHolds.j2 k2 x9_2 x10_1 x12_2 (((rd_T50 t352 x9_2).f2) != ((rd_T64 l0_1 x10_1).f3)) a0_0 l0_1 l1_0 l1_1 a2_0 a2_1 a2_2 a2_3 a2_4 a2_5 a2_6 a2_7 a2_8 t352 ((rd_T64 l0_1 x10_1).f0.f0) ((rd_T64 l0_1 x10_1).f0.f1) ((rd_T64 l0_1 x10_1).f0.f2) ((rd_T64 l0_1 x10_1).f0.f3) ((rd_T64 l0_1 x10_1).f0.f4) ((rd_T64 l0_1 x10_1).f1) ((rd_T64 l0_1 x10_1).f2) ((rd_T64 l0_1 x10_1).f3) ((rd_T64 l0_1 x10_1).f4.f0) ((rd_T64 l0_1 x10_1).f4.f1) ((rd_T64 l0_1 x10_1).f4.f2) ((rd_T64 l0_1 x10_1).f4.f3) ((rd_T64 l0_1 x10_1).f4.f4) ((rd_T50 t352 x9_2).f0.f0) ((rd_T50 t352 x9_2).f0.f1) ((rd_T50 t352 x9_2).f0.f2) ((rd_T50 t352 x9_2).f0.f3) ((rd_T50 t352 x9_2).f0.f4) ((rd_T50 t352 x9_2).f1) ((rd_T50 t352 x9_2).f2) ((rd_T50 t352 x9_2).f3.f0) ((rd_T50 t352 x9_2).f3.f1) ((rd_T50 t352 x9_2).f3.f2) ((rd_T50 t352 x9_2).f3.f3) ((rd_T50 t352 x9_2).f3.f4)) else (signalbenchlaw44_TrigautoHolds.j2 k2 x9_2 x10_1 x12_2 true a0_0 l0_1 l1_0 l1_1 a2_0 a2_1 a2_2 a2_3 a2_4 a2_5 a2_6 a2_7 a2_8 t352 ((rd_T64 l0_1 x10_1).f0.f0) ((rd_T64 l0_1 x10_1).f0.f1) ((rd_T64 l0_1 x10_1).f0.f2) ((rd_T64 l0_1 x10_1).f0.f3) ((rd_T64 l0_1 x10_1).f0.f4) ((rd_T64 l0_1 x10_1).f1) ((rd_T64 l0_1 x10_1).f2) ((rd_T64 l0_1 x10_1).f3) ((rd_T64 l0_1 x10_1).f4.f0) ((rd_T64 l0_1 x10_1).f4.f1) ((rd_T64 l0_1 x10_1).f4.f2) ((rd_T64 l0_1 x10_1).f4.f3) ((rd_T64 l0_1 x10_1).f4.f4) ((rd_T50 t352 x9_2).f0.f0) ((rd_T50 t352 x9_2).f0.f1) ((rd_T50 t352 x9_2).f0.f2) ((rd_T50 t352 x9_2).f0.f3) ((rd_T50 t352 x9_2).f0.f4) ((rd_T50 t352 x9_2).f1) ((rd_T50 t352 x9_2).f2) ((rd_T50 t352 x9_2).f3.f0) ((rd_T50 t352 x9_2).f3.f1) ((rd_T50 t352 x9_2).f3.f2) ((rd_T50 t352 x9_2).f3.f3) ((rd_T50 t352 x9_2).f3.f4))) else (signalbenchlaw44_TrigautoHolds.j2 k2 x9_2 x10_1 x12_2 false a0_0 l0_1 l1_0 l1_1 a2_0 a2_1 a2_2 a2_3 a2_4 a2_5 a2_6 a2_7 a2_8 t352 ((rd_T64 l0_1 x10_1).f0.f0) ((rd_T64 l0_1 x10_1).f0.f1) ((rd_T64 l0_1 x10_1).f0.f2) ((rd_T64 l0_1 x10_1).f0.f3) ((rd_T64 l0_1 x10_1).f0.f4) ((rd_T64 l0_1 x10_1).f1) ((rd_T64 l0_1 x10_1).f2) ((rd_T64 l0_1 x10_1).f3) ((rd_T64 l0_1 x10_1).f4.f0) ((rd_T64 l0_1 x10_1).f4.f1) ((rd_T64 l0_1 x10_1).f4.f2) ((rd_T64 l0_1 x10_1).f4.f3) ((rd_T64 l0_1 x10_1).f4.f4) ((rd_T50 t352 x9_2).f0.f0) ((rd_T50 t352 x9_2).f0.f1) ((rd_T50 t352 x9_2).f0.f2) ((rd_T50 t352 x9_2).f0.f3) ((rd_T50 t352 x9_2).f0.f4) ((rd_T50 t352 x9_2).f1) ((rd_T50 t352 x9_2).f2) ((rd_T50 t352 x9_2).f3.f0) ((rd_T50 t352 x9_2).f3.f1) ((rd_T50 t352 x9_2).f3.f2) ((rd_T50 t352 x9_2).f3.f3) ((rd_T50 t352 x9_2).f3.f4)))) = some r := H
            have A47 := Aside0.mk A470
            clear A470
            by_cases c48 : (t364 != t365) = true
            ·
             rw [if_pos c48] at H
             have c48b0 : (t364 != t365) = true := c48
             (try (have c48b1 : decide (t364 = t365) = false := by simpa using c48))
             (try (have c48b2 : (t364 == t365) = false := by simpa using c48))
             (try (have c48b3 : ¬ (t364 = t365) := by simpa using c48))
             clear c48
             obtain rfl := Option.some.inj H
             have hnb49 := NB361_349.out
             have hnc49 := NB349_361.out
             have hnb50 := NB361_350.out
             have hnc50 := NB350_361.out
             have hnb51 := NB361_351.out
             have hnc51 := NB351_361.out
             have hnb52 := NB361_356.out
             have hnc52 := NB356_361.out
             obtain ⟨hcz53_0, hcz53_1, hcz53_2, hcz53_3, hcz53_4, hcz53_5, hcz53_6, hcz53_7, hcz53_8, hcz53_9, hcz53_10, hcz53_11, hcz53_12⟩ := bc13 BK361.out
             obtain ⟨hfz53_0, hfz53_1, hfz53_2, hfz53_3, hfz53_4, hfz53_5, hfz53_6, hfz53_7, hfz53_8, hfz53_9, hfz53_10, hfz53_11, hfz53_12⟩ := bf13 BK361.out
             have hnb54 := NB356_349.out
             have hnc54 := NB349_356.out
             have hnb55 := NB356_350.out
             have hnc55 := NB350_356.out
             have hnb56 := NB356_351.out
             have hnc56 := NB351_356.out
             have hcz57_0 : wr.cell? ⟨gb356, 0, none⟩ = some (.slice Ao16 t352.length co16) := (blk_cell BK356.out 0).trans rfl
             have hfz57_0 := blk_frozen BK356.out 0
             have p362 : 0 ≤ (x9_2 : Int) := of_decide_eq_true (by first | (with_reducible assumption) | assumption)
             have q362 : x9_2 < (t352.length : Int) := of_decide_eq_true (by first | (with_reducible assumption) | assumption)
             obtain ⟨ad362, e362, hx362_0, hx362_1, hx362_2, hx362_3, hx362_4, hx362_5, hx362_6, hx362_7, hx362_8, hx362_9, hx362_10, hx362_11⟩ := at_T50 (Kd.R_reads' HO_357000.out).2.2 x9_2 p362 q362
             cases e362
             replace p362 := eq_true p362
             replace q362 := eq_true q362
             try go_wp2_with (first | ((with_reducible refine gate_dst (N := 13) rfl ?_); refine box_event ?hg (N := 13) ?hd (cs := #[.int .i64 0, .int .i64 0, .int .i64 0, .int .i64 0, .int .i64 0, .int .i64 0, .bool false, .int .i64 0, .int .i64 0, .int .i64 0, .int .i64 0, .int .i64 0]) (t := 50) ?hr ?_; (case hd => rfl); (case hg => rfl); (case hr => first | (go_simp; done) | (go_simp; rfl)); intro gb363 hg w58 hbox hb; have n0_ := Aside0.mk (Kd.R_below (Kd.R_elderB (by (with_reducible repeat (first | apply Kd.R_alloc | apply Kd.R_drewN | apply Kd.R_drew)); exact HO_357000.out) gb363 (Nat.le_of_eq hg.symm)) hb); have n1_ := Aside0.mk (blk_below (bg BK349.out) hb); have n2_ := Aside0.mk (blk_below (bg BK350.out) hb); have n3_ := Aside0.mk (blk_below (bg BK351.out) hb); have n4_ := Aside0.mk (blk_below (bg BK356.out) hb); have n5_ := Aside0.mk (blk_below (bg BK361.out) hb); have n6_ := Aside0.mk (below_step (bs HB.out) hb); have n7_ := Aside0.mk (hbox); have n8_ := Aside0.mk ((by rw [hg]; exact (below_size (bs HB.out)) : w.heap.size ≤ gb363)); have n9_ := n8_; have n10_ := Aside0.mk ((by rw [hg]; exact Nat.ne_of_lt (blk_lt (bg BK349.out)) : gb349 ≠ gb363)); have n11_ := Aside0.mk ((by rw [hg]; exact Nat.ne_of_gt (blk_lt (bg BK349.out)) : gb363 ≠ gb349)); have n12_ := Aside0.mk ((by rw [hg]; exact Nat.ne_of_lt (blk_lt (bg BK350.out)) : gb350 ≠ gb363)); have n13_ := Aside0.mk ((by rw [hg]; exact Nat.ne_of_gt (blk_lt (bg BK350.out)) : gb363 ≠ gb350)); have n14_ := Aside0.mk ((by rw [hg]; exact Nat.ne_of_lt (blk_lt (bg BK351.out)) : gb351 ≠ gb363)); have n15_ := Aside0.mk ((by rw [hg]; exact Nat.ne_of_gt (blk_lt (bg BK351.out)) : gb363 ≠ gb351)); have n16_ := Aside0.mk ((by rw [hg]; exact Nat.ne_of_lt (blk_lt (bg BK356.out)) : gb356 ≠ gb363)); have n17_ := Aside0.mk ((by rw [hg]; exact Nat.ne_of_gt (blk_lt (bg BK356.out)) : gb363 ≠ gb356)); have n18_ := Aside0.mk ((by rw [hg]; exact Nat.ne_of_lt (blk_lt (bg BK361.out)) : gb361 ≠ gb363)); have n19_ := Aside0.mk ((by rw [hg]; exact Nat.ne_of_gt (blk_lt (bg BK361.out)) : gb363 ≠ gb361)); clear HO_357000; clear BK349; clear BK350; clear BK351; clear BK356; clear BK361; clear HB; have HO_357000 := n0_; have BK349 := n1_; have BK350 := n2_; have BK351 := n3_; have BK356 := n4_; have BK361 := n5_; have HB := n6_; have BK363 := n7_; have GW363 := n8_; have GE363 := n9_; have NB349_363 := n10_; have NB363_349 := n11_; have NB350_363 := n12_; have NB363_350 := n13_; have NB351_363 := n14_; have NB363_351 := n15_; have NB356_363 := n16_; have NB363_356 := n17_; have NB361_363 := n18_; have NB363_361 := n19_; clear n0_ n1_ n2_ n3_ n4_ n5_ n6_ n7_ n8_ n9_ n10_ n11_ n12_ n13_ n14_ n15_ n16_ n17_ n18_ n19_; clear hb hbox hg; have hnb59 := NB363_349.out; have hnc59 := NB349_363.out; have hnb60 := NB363_350.out; have hnc60 := NB350_363.out; have hnb61 := NB363_351.out; have hnc61 := NB351_363.out; have hnb62 := NB363_356.out; have hnc62 := NB356_363.out; have hnb63 := NB363_361.out; have hnc63 := NB361_363.out; obtain ⟨hcz64_0, hcz64_1, hcz64_2, hcz64_3, hcz64_4, hcz64_5, hcz64_6, hcz64_7, hcz64_8, hcz64_9, hcz64_10, hcz64_11⟩ := bc12 BK363.out; obtain ⟨hfz64_0, hfz64_1, hfz64_2, hfz64_3, hfz64_4, hfz64_5, hfz64_6, hfz64_7, hfz64_8, hfz64_9, hfz64_10, hfz64_11⟩ := bf12 BK363.out))
             have n0_ : Aside0 (Kd.R k50 50 ((((((((((((w58.setCell ⟨gb363, 0, none⟩ (.int .i64 ((rd_T50 t352 x9_2).f0.f0))).setCell ⟨gb363, 1, none⟩ (.int .i64 ((rd_T50 t352 x9_2).f0.f1))).setCell ⟨gb363, 2, none⟩ (.int .i64 ((rd_T50 t352 x9_2).f0.f2))).setCell ⟨gb363, 3, none⟩ (.int .i64 ((rd_T50 t352 x9_2).f0.f3))).setCell ⟨gb363, 4, none⟩ (.int .i64 ((rd_T50 t352 x9_2).f0.f4))).setCell ⟨gb363, 5, none⟩ (.int .i64 ((rd_T50 t352 x9_2).f1))).setCell ⟨gb363, 6, none⟩ (.bool ((rd_T50 t352 x9_2).f2))).setCell ⟨gb363, 7, none⟩ (.int .i64 ((rd_T50 t352 x9_2).f3.f0))).setCell ⟨gb363, 8, none⟩ (.int .i64 ((rd_T50 t352 x9_2).f3.f1))).setCell ⟨gb363, 9, none⟩ (.int .i64 ((rd_T50 t352 x9_2).f3.f2))).setCell ⟨gb363, 10, none⟩ (.int .i64 ((rd_T50 t352 x9_2).f3.f3))).setCell ⟨gb363, 11, none⟩ (.int .i64 ((rd_T50 t352 x9_2).f3.f4))) w.heap.size (fun k_ => k_ ≠ gb363) (.slice (some ad362) t352.length co16) t352) := ⟨by (with_reducible repeat (first | apply Kd.R_alloc | apply Kd.R_drewN | apply Kd.R_drew)); exact Kd.R_mono (Kd.R_far (p := ⟨gb363, 11, none⟩) (Kd.R_far (p := ⟨gb363, 10, none⟩) (Kd.R_far (p := ⟨gb363, 9, none⟩) (Kd.R_far (p := ⟨gb363, 8, none⟩) (Kd.R_far (p := ⟨gb363, 7, none⟩) (Kd.R_far (p := ⟨gb363, 6, none⟩) (Kd.R_far (p := ⟨gb363, 5, none⟩) (Kd.R_far (p := ⟨gb363, 4, none⟩) (Kd.R_far (p := ⟨gb363, 3, none⟩) (Kd.R_far (p := ⟨gb363, 2, none⟩) (Kd.R_far (p := ⟨gb363, 1, none⟩) (Kd.R_far (p := ⟨gb363, 0, none⟩) (Kd.R_mono HO_357000.out (fun k_ hk => (⟨hk, hk.2⟩ : _ ∧ k_ ≠ gb363))) (fun _ hk => hk.2) (.int .i64 ((rd_T50 t352 x9_2).f0.f0))) (fun _ hk => hk.2) (.int .i64 ((rd_T50 t352 x9_2).f0.f1))) (fun _ hk => hk.2) (.int .i64 ((rd_T50 t352 x9_2).f0.f2))) (fun _ hk => hk.2) (.int .i64 ((rd_T50 t352 x9_2).f0.f3))) (fun _ hk => hk.2) (.int .i64 ((rd_T50 t352 x9_2).f0.f4))) (fun _ hk => hk.2) (.int .i64 ((rd_T50 t352 x9_2).f1))) (fun _ hk => hk.2) (.bool ((rd_T50 t352 x9_2).f2))) (fun _ hk => hk.2) (.int .i64 ((rd_T50 t352 x9_2).f3.f0))) (fun _ hk => hk.2) (.int .i64 ((rd_T50 t352 x9_2).f3.f1))) (fun _ hk => hk.2) (.int .i64 ((rd_T50 t352 x9_2).f3.f2))) (fun _ hk => hk.2) (.int .i64 ((rd_T50 t352 x9_2).f3.f3))) (fun _ hk => hk.2) (.int .i64 ((rd_T50 t352 x9_2).f3.f4))) (fun _ hk => hk.1.2)⟩
             have n1_ : Aside0 (((((((((((((w58.setCell ⟨gb363, 0, none⟩ (.int .i64 ((rd_T50 t352 x9_2).f0.f0))).setCell ⟨gb363, 1, none⟩ (.int .i64 ((rd_T50 t352 x9_2).f0.f1))).setCell ⟨gb363, 2, none⟩ (.int .i64 ((rd_T50 t352 x9_2).f0.f2))).setCell ⟨gb363, 3, none⟩ (.int .i64 ((rd_T50 t352 x9_2).f0.f3))).setCell ⟨gb363, 4, none⟩ (.int .i64 ((rd_T50 t352 x9_2).f0.f4))).setCell ⟨gb363, 5, none⟩ (.int .i64 ((rd_T50 t352 x9_2).f1))).setCell ⟨gb363, 6, none⟩ (.bool ((rd_T50 t352 x9_2).f2))).setCell ⟨gb363, 7, none⟩ (.int .i64 ((rd_T50 t352 x9_2).f3.f0))).setCell ⟨gb363, 8, none⟩ (.int .i64 ((rd_T50 t352 x9_2).f3.f1))).setCell ⟨gb363, 9, none⟩ (.int .i64 ((rd_T50 t352 x9_2).f3.f2))).setCell ⟨gb363, 10, none⟩ (.int .i64 ((rd_T50 t352 x9_2).f3.f3))).setCell ⟨gb363, 11, none⟩ (.int .i64 ((rd_T50 t352 x9_2).f3.f4))).heap[gb349]? = some (.cells #[.string a0_0, .slice (some ad360) l0_1.length c0_1] 24 (0, 0))) := ⟨by (iterate 12 (with_reducible repeat (first | refine blk_drewN ?_ _ | refine blk_drew ?_ | refine blk_alloc ?_ _)); refine blk_far ?_ NB349_363.out _); exact bg BK349.out⟩
             have n2_ : Aside0 (((((((((((((w58.setCell ⟨gb363, 0, none⟩ (.int .i64 ((rd_T50 t352 x9_2).f0.f0))).setCell ⟨gb363, 1, none⟩ (.int .i64 ((rd_T50 t352 x9_2).f0.f1))).setCell ⟨gb363, 2, none⟩ (.int .i64 ((rd_T50 t352 x9_2).f0.f2))).setCell ⟨gb363, 3, none⟩ (.int .i64 ((rd_T50 t352 x9_2).f0.f3))).setCell ⟨gb363, 4, none⟩ (.int .i64 ((rd_T50 t352 x9_2).f0.f4))).setCell ⟨gb363, 5, none⟩ (.int .i64 ((rd_T50 t352 x9_2).f1))).setCell ⟨gb363, 6, none⟩ (.bool ((rd_T50 t352 x9_2).f2))).setCell ⟨gb363, 7, none⟩ (.int .i64 ((rd_T50 t352 x9_2).f3.f0))).setCell ⟨gb363, 8, none⟩ (.int .i64 ((rd_T50 t352 x9_2).f3.f1))).setCell ⟨gb363, 9, none⟩ (.int .i64 ((rd_T50 t352 x9_2).f3.f2))).setCell ⟨gb363, 10, none⟩ (.int .i64 ((rd_T50 t352 x9_2).f3.f3))).setCell ⟨gb363, 11, none⟩ (.int .i64 ((rd_T50 t352 x9_2).f3.f4))).heap[gb350]? = some (.cells #[.slice A1_0 l1_0.length c1_0, .slice A1_1 l1_1.length c1_1] 28 (0, 0))) := ⟨by (iterate 12 (with_reducible repeat (first | refine blk_drewN ?_ _ | refine blk_drew ?_ | refine blk_alloc ?_ _)); refine blk_far ?_ NB350_363.out _); exact bg BK350.out⟩
             have n3_ : Aside0 (((((((((((((w58.setCell ⟨gb363, 0, none⟩ (.int .i64 ((rd_T50 t352 x9_2).f0.f0))).setCell ⟨gb363, 1, none⟩ (.int .i64 ((rd_T50 t352 x9_2).f0.f1))).setCell ⟨gb363, 2, none⟩ (.int .i64 ((rd_T50 t352 x9_2).f0.f2))).setCell ⟨gb363, 3, none⟩ (.int .i64 ((rd_T50 t352 x9_2).f0.f3))).setCell ⟨gb363, 4, none⟩ (.int .i64 ((rd_T50 t352 x9_2).f0.f4))).setCell ⟨gb363, 5, none⟩ (.int .i64 ((rd_T50 t352 x9_2).f1))).setCell ⟨gb363, 6, none⟩ (.bool ((rd_T50 t352 x9_2).f2))).setCell ⟨gb363, 7, none⟩ (.int .i64 ((rd_T50 t352 x9_2).f3.f0))).setCell ⟨gb363, 8, none⟩ (.int .i64 ((rd_T50 t352 x9_2).f3.f1))).setCell ⟨gb363, 9, none⟩ (.int .i64 ((rd_T50 t352 x9_2).f3.f2))).setCell ⟨gb363, 10, none⟩ (.int .i64 ((rd_T50 t352 x9_2).f3.f3))).setCell ⟨gb363, 11, none⟩ (.int .i64 ((rd_T50 t352 x9_2).f3.f4))).heap[gb351]? = some (.cells #[.int .i64 a2_0, .int .i64 a2_1, .int .i64 a2_2, .int .i64 a2_3, .int .i64 a2_4, .int .i64 a2_5, .int .i64 a2_6, .string a2_7, .int .i64 a2_8] 46 (0, 0))) := ⟨by (iterate 12 (with_reducible repeat (first | refine blk_drewN ?_ _ | refine blk_drew ?_ | refine blk_alloc ?_ _)); refine blk_far ?_ NB351_363.out _); exact bg BK351.out⟩
             have n4_ : Aside0 (((((((((((((w58.setCell ⟨gb363, 0, none⟩ (.int .i64 ((rd_T50 t352 x9_2).f0.f0))).setCell ⟨gb363, 1, none⟩ (.int .i64 ((rd_T50 t352 x9_2).f0.f1))).setCell ⟨gb363, 2, none⟩ (.int .i64 ((rd_T50 t352 x9_2).f0.f2))).setCell ⟨gb363, 3, none⟩ (.int .i64 ((rd_T50 t352 x9_2).f0.f3))).setCell ⟨gb363, 4, none⟩ (.int .i64 ((rd_T50 t352 x9_2).f0.f4))).setCell ⟨gb363, 5, none⟩ (.int .i64 ((rd_T50 t352 x9_2).f1))).setCell ⟨gb363, 6, none⟩ (.bool ((rd_T50 t352 x9_2).f2))).setCell ⟨gb363, 7, none⟩ (.int .i64 ((rd_T50 t352 x9_2).f3.f0))).setCell ⟨gb363, 8, none⟩ (.int .i64 ((rd_T50 t352 x9_2).f3.f1))).setCell ⟨gb363, 9, none⟩ (.int .i64 ((rd_T50 t352 x9_2).f3.f2))).setCell ⟨gb363, 10, none⟩ (.int .i64 ((rd_T50 t352 x9_2).f3.f3))).setCell ⟨gb363, 11, none⟩ (.int .i64 ((rd_T50 t352 x9_2).f3.f4))).heap[gb356]? = some (.cells #[.slice (some ad362) t352.length co16] 31 (0, 0))) := ⟨by (iterate 12 (with_reducible repeat (first | refine blk_drewN ?_ _ | refine blk_drew ?_ | refine blk_alloc ?_ _)); refine blk_far ?_ NB356_363.out _); exact bg BK356.out⟩
             have n5_ : Aside0 (((((((((((((w58.setCell ⟨gb363, 0, none⟩ (.int .i64 ((rd_T50 t352 x9_2).f0.f0))).setCell ⟨gb363, 1, none⟩ (.int .i64 ((rd_T50 t352 x9_2).f0.f1))).setCell ⟨gb363, 2, none⟩ (.int .i64 ((rd_T50 t352 x9_2).f0.f2))).setCell ⟨gb363, 3, none⟩ (.int .i64 ((rd_T50 t352 x9_2).f0.f3))).setCell ⟨gb363, 4, none⟩ (.int .i64 ((rd_T50 t352 x9_2).f0.f4))).setCell ⟨gb363, 5, none⟩ (.int .i64 ((rd_T50 t352 x9_2).f1))).setCell ⟨gb363, 6, none⟩ (.bool ((rd_T50 t352 x9_2).f2))).setCell ⟨gb363, 7, none⟩ (.int .i64 ((rd_T50 t352 x9_2).f3.f0))).setCell ⟨gb363, 8, none⟩ (.int .i64 ((rd_T50 t352 x9_2).f3.f1))).setCell ⟨gb363, 9, none⟩ (.int .i64 ((rd_T50 t352 x9_2).f3.f2))).setCell ⟨gb363, 10, none⟩ (.int .i64 ((rd_T50 t352 x9_2).f3.f3))).setCell ⟨gb363, 11, none⟩ (.int .i64 ((rd_T50 t352 x9_2).f3.f4))).heap[gb361]? = some (.cells #[.string ((rd_T64 l0_1 x10_1).f0.f0), .int .i64 ((rd_T64 l0_1 x10_1).f0.f1), .int .i64 ((rd_T64 l0_1 x10_1).f0.f2), .int .i64 ((rd_T64 l0_1 x10_1).f0.f3), .int .i64 ((rd_T64 l0_1 x10_1).f0.f4), .int .i64 ((rd_T64 l0_1 x10_1).f1), .int .i64 ((rd_T64 l0_1 x10_1).f2), .bool ((rd_T64 l0_1 x10_1).f3), .string ((rd_T64 l0_1 x10_1).f4.f0), .int .i64 ((rd_T64 l0_1 x10_1).f4.f1), .int .i64 ((rd_T64 l0_1 x10_1).f4.f2), .int .i64 ((rd_T64 l0_1 x10_1).f4.f3), .int .i64 ((rd_T64 l0_1 x10_1).f4.f4)] 64 (0, 0))) := ⟨by (iterate 12 (with_reducible repeat (first | refine blk_drewN ?_ _ | refine blk_drew ?_ | refine blk_alloc ?_ _)); refine blk_far ?_ NB361_363.out _); exact bg BK361.out⟩
             have n6_ : Aside0 (((((((((((((w58.setCell ⟨gb363, 0, none⟩ (.int .i64 ((rd_T50 t352 x9_2).f0.f0))).setCell ⟨gb363, 1, none⟩ (.int .i64 ((rd_T50 t352 x9_2).f0.f1))).setCell ⟨gb363, 2, none⟩ (.int .i64 ((rd_T50 t352 x9_2).f0.f2))).setCell ⟨gb363, 3, none⟩ (.int .i64 ((rd_T50 t352 x9_2).f0.f3))).setCell ⟨gb363, 4, none⟩ (.int .i64 ((rd_T50 t352 x9_2).f0.f4))).setCell ⟨gb363, 5, none⟩ (.int .i64 ((rd_T50 t352 x9_2).f1))).setCell ⟨gb363, 6, none⟩ (.bool ((rd_T50 t352 x9_2).f2))).setCell ⟨gb363, 7, none⟩ (.int .i64 ((rd_T50 t352 x9_2).f3.f0))).setCell ⟨gb363, 8, none⟩ (.int .i64 ((rd_T50 t352 x9_2).f3.f1))).setCell ⟨gb363, 9, none⟩ (.int .i64 ((rd_T50 t352 x9_2).f3.f2))).setCell ⟨gb363, 10, none⟩ (.int .i64 ((rd_T50 t352 x9_2).f3.f3))).setCell ⟨gb363, 11, none⟩ (.int .i64 ((rd_T50 t352 x9_2).f3.f4))).heap[gb363]? = some (.cells #[.int .i64 ((rd_T50 t352 x9_2).f0.f0), .int .i64 ((rd_T50 t352 x9_2).f0.f1), .int .i64 ((rd_T50 t352 x9_2).f0.f2), .int .i64 ((rd_T50 t352 x9_2).f0.f3), .int .i64 ((rd_T50 t352 x9_2).f0.f4), .int .i64 ((rd_T50 t352 x9_2).f1), .bool ((rd_T50 t352 x9_2).f2), .int .i64 ((rd_T50 t352 x9_2).f3.f0), .int .i64 ((rd_T50 t352 x9_2).f3.f1), .int .i64 ((rd_T50 t352 x9_2).f3.f2), .int .i64 ((rd_T50 t352 x9_2).f3.f3), .int .i64 ((rd_T50 t352 x9_2).f3.f4)] 50 (0, 0))) := ⟨by exact pt12 (bg BK363.out)⟩
             have n7_ : Aside0 (Below w.heap.size w ((((((((((((w58.setCell ⟨gb363, 0, none⟩ (.int .i64 ((rd_T50 t352 x9_2).f0.f0))).setCell ⟨gb363, 1, none⟩ (.int .i64 ((rd_T50 t352 x9_2).f0.f1))).setCell ⟨gb363, 2, none⟩ (.int .i64 ((rd_T50 t352 x9_2).f0.f2))).setCell ⟨gb363, 3, none⟩ (.int .i64 ((rd_T50 t352 x9_2).f0.f3))).setCell ⟨gb363, 4, none⟩ (.int .i64 ((rd_T50 t352 x9_2).f0.f4))).setCell ⟨gb363, 5, none⟩ (.int .i64 ((rd_T50 t352 x9_2).f1))).setCell ⟨gb363, 6, none⟩ (.bool ((rd_T50 t352 x9_2).f2))).setCell ⟨gb363, 7, none⟩ (.int .i64 ((rd_T50 t352 x9_2).f3.f0))).setCell ⟨gb363, 8, none⟩ (.int .i64 ((rd_T50 t352 x9_2).f3.f1))).setCell ⟨gb363, 9, none⟩ (.int .i64 ((rd_T50 t352 x9_2).f3.f2))).setCell ⟨gb363, 10, none⟩ (.int .i64 ((rd_T50 t352 x9_2).f3.f3))).setCell ⟨gb363, 11, none⟩ (.int .i64 ((rd_T50 t352 x9_2).f3.f4)))) := ⟨bs HB.out⟩
             (try clear HO_357000)
             (try clear BK349)
             (try clear BK350)
             (try clear BK351)
             (try clear BK356)
             (try clear BK361)
             (try clear BK363)
             (try clear HB)
             generalize ((((((((((((w58.setCell ⟨gb363, 0, none⟩ (.int .i64 ((rd_T50 t352 x9_2).f0.f0))).setCell ⟨gb363, 1, none⟩ (.int .i64 ((rd_T50 t352 x9_2).f0.f1))).setCell ⟨gb363, 2, none⟩ (.int .i64 ((rd_T50 t352 x9_2).f0.f2))).setCell ⟨gb363, 3, none⟩ (.int .i64 ((rd_T50 t352 x9_2).f0.f3))).setCell ⟨gb363, 4, none⟩ (.int .i64 ((rd_T50 t352 x9_2).f0.f4))).setCell ⟨gb363, 5, none⟩ (.int .i64 ((rd_T50 t352 x9_2).f1))).setCell ⟨gb363, 6, none⟩ (.bool ((rd_T50 t352 x9_2).f2))).setCell ⟨gb363, 7, none⟩ (.int .i64 ((rd_T50 t352 x9_2).f3.f0))).setCell ⟨gb363, 8, none⟩ (.int .i64 ((rd_T50 t352 x9_2).f3.f1))).setCell ⟨gb363, 9, none⟩ (.int .i64 ((rd_T50 t352 x9_2).f3.f2))).setCell ⟨gb363, 10, none⟩ (.int .i64 ((rd_T50 t352 x9_2).f3.f3))).setCell ⟨gb363, 11, none⟩ (.int .i64 ((rd_T50 t352 x9_2).f3.f4))) = w65 at n0_ n1_ n2_ n3_ n4_ n5_ n6_ n7_ ⊢
             have HO_357000 := n0_
             have BK349 := n1_
             have BK350 := n2_
             have BK351 := n3_
             have BK356 := n4_
             have BK361 := n5_
             have BK363 := n6_
             have HB := n7_
             clear n0_ n1_ n2_ n3_ n4_ n5_ n6_ n7_
             have n0_ := Aside0.mk (Kd.R_drew HO_357000.out)
             have n1_ := Aside0.mk (blk_drew BK349.out)
             have n2_ := Aside0.mk (blk_drew BK350.out)
             have n3_ := Aside0.mk (blk_drew BK351.out)
             have n4_ := Aside0.mk (blk_drew BK356.out)
             have n5_ := Aside0.mk (blk_drew BK361.out)
             have n6_ := Aside0.mk (blk_drew BK363.out)
             have n7_ := Aside0.mk (below_drew1 HB.out)
             clear HO_357000
             clear BK349
             clear BK350
             clear BK351
             clear BK356
             clear BK361
             clear BK363
             clear HB
             have HO_357000 := n0_
             have BK349 := n1_
             have BK350 := n2_
             have BK351 := n3_
             have BK356 := n4_
             have BK361 := n5_
             have BK363 := n6_
             have HB := n7_
             clear n0_ n1_ n2_ n3_ n4_ n5_ n6_ n7_
             refine start_ (n := 10) (S := fun w' => w'.cell? ⟨gb363, 0, none⟩ = some (.int .i64 ((rd_T50 t352 x9_2).f0.f0)) ∧ w'.cell? ⟨gb363, 1, none⟩ = some (.int .i64 ((rd_T50 t352 x9_2).f0.f1)) ∧ w'.cell? ⟨gb363, 2, none⟩ = some (.int .i64 ((rd_T50 t352 x9_2).f0.f2)) ∧ w'.cell? ⟨gb363, 3, none⟩ = some (.int .i64 ((rd_T50 t352 x9_2).f0.f3)) ∧ w'.cell? ⟨gb363, 4, none⟩ = some (.int .i64 ((rd_T50 t352 x9_2).f0.f4)) ∧ w'.cell? ⟨gb363, 5, none⟩ = some (.int .i64 ((rd_T50 t352 x9_2).f1)) ∧ w'.cell? ⟨gb363, 6, none⟩ = some (.bool ((rd_T50 t352 x9_2).f2)) ∧ w'.cell? ⟨gb363, 7, none⟩ = some (.int .i64 ((rd_T50 t352 x9_2).f3.f0)) ∧ w'.cell? ⟨gb363, 8, none⟩ = some (.int .i64 ((rd_T50 t352 x9_2).f3.f1)) ∧ w'.cell? ⟨gb363, 9, none⟩ = some (.int .i64 ((rd_T50 t352 x9_2).f3.f2)) ∧ w'.cell? ⟨gb363, 10, none⟩ = some (.int .i64 ((rd_T50 t352 x9_2).f3.f3)) ∧ w'.cell? ⟨gb363, 11, none⟩ = some (.int .i64 ((rd_T50 t352 x9_2).f3.f4)) ∧ w'.cell? ⟨gb351, 0, none⟩ = some (.int .i64 a2_0) ∧ w'.cell? ⟨gb351, 1, none⟩ = some (.int .i64 a2_1) ∧ w'.cell? ⟨gb351, 2, none⟩ = some (.int .i64 a2_2) ∧ w'.cell? ⟨gb351, 3, none⟩ = some (.int .i64 a2_3) ∧ w'.cell? ⟨gb351, 4, none⟩ = some (.int .i64 a2_4) ∧ w'.cell? ⟨gb351, 5, none⟩ = some (.int .i64 a2_5) ∧ w'.cell? ⟨gb351, 6, none⟩ = some (.int .i64 a2_6) ∧ w'.cell? ⟨gb351, 7, none⟩ = some (.string a2_7) ∧ w'.cell? ⟨gb351, 8, none⟩ = some (.int .i64 a2_8) ∧ w'.cell? ⟨gb361, 0, none⟩ = some (.string ((rd_T64 l0_1 x10_1).f0.f0)) ∧ w'.cell? ⟨gb361, 1, none⟩ = some (.int .i64 ((rd_T64 l0_1 x10_1).f0.f1)) ∧ w'.cell? ⟨gb361, 2, none⟩ = some (.int .i64 ((rd_T64 l0_1 x10_1).f0.f2)) ∧ w'.cell? ⟨gb361, 3, none⟩ = some (.int .i64 ((rd_T64 l0_1 x10_1).f0.f3)) ∧ w'.cell? ⟨gb361, 4, none⟩ = some (.int .i64 ((rd_T64 l0_1 x10_1).f0.f4)) ∧ w'.cell? ⟨gb361, 5, none⟩ = some (.int .i64 ((rd_T64 l0_1 x10_1).f1)) ∧ w'.cell? ⟨gb361, 6, none⟩ = some (.int .i64 ((rd_T64 l0_1 x10_1).f2)) ∧ w'.cell? ⟨gb361, 7, none⟩ = some (.bool ((rd_T64 l0_1 x10_1).f3)) ∧ w'.cell? ⟨gb361, 8, none⟩ = some (.string ((rd_T64 l0_1 x10_1).f4.f0)) ∧ w'.cell? ⟨gb361, 9, none⟩ = some (.int .i64 ((rd_T64 l0_1 x10_1).f4.f1)) ∧ w'.cell? ⟨gb361, 10, none⟩ = some (.int .i64 ((rd_T64 l0_1 x10_1).f4.f2)) ∧ w'.cell? ⟨gb361, 11, none⟩ = some (.int .i64 ((rd_T64 l0_1 x10_1).f4.f3)) ∧ w'.cell? ⟨gb361, 12, none⟩ = some (.int .i64 ((rd_T64 l0_1 x10_1).f4.f4)) ∧ w'.cell? ⟨gb350, 0, none⟩ = some (.slice A1_0 l1_0.length c1_0) ∧ w'.cell? ⟨gb350, 1, none⟩ = some (.slice A1_1 l1_1.length c1_1)) (ds := []) (bsq 0 10) (by kernel_rfl) rfl rfl ⟨(blk_cell BK363.out 0).trans rfl, (blk_cell BK363.out 1).trans rfl, (blk_cell BK363.out 2).trans rfl, (blk_cell BK363.out 3).trans rfl, (blk_cell BK363.out 4).trans rfl, (blk_cell BK363.out 5).trans rfl, (blk_cell BK363.out 6).trans rfl, (blk_cell BK363.out 7).trans rfl, (blk_cell BK363.out 8).trans rfl, (blk_cell BK363.out 9).trans rfl, (blk_cell BK363.out 10).trans rfl, (blk_cell BK363.out 11).trans rfl, (blk_cell BK351.out 0).trans rfl, (blk_cell BK351.out 1).trans rfl, (blk_cell BK351.out 2).trans rfl, (blk_cell BK351.out 3).trans rfl, (blk_cell BK351.out 4).trans rfl, (blk_cell BK351.out 5).trans rfl, (blk_cell BK351.out 6).trans rfl, (blk_cell BK351.out 7).trans rfl, (blk_cell BK351.out 8).trans rfl, (blk_cell BK361.out 0).trans rfl, (blk_cell BK361.out 1).trans rfl, (blk_cell BK361.out 2).trans rfl, (blk_cell BK361.out 3).trans rfl, (blk_cell BK361.out 4).trans rfl, (blk_cell BK361.out 5).trans rfl, (blk_cell BK361.out 6).trans rfl, (blk_cell BK361.out 7).trans rfl, (blk_cell BK361.out 8).trans rfl, (blk_cell BK361.out 9).trans rfl, (blk_cell BK361.out 10).trans rfl, (blk_cell BK361.out 11).trans rfl, (blk_cell BK361.out 12).trans rfl, (blk_cell BK350.out 0).trans rfl, (blk_cell BK350.out 1).trans rfl⟩ (fun hHeld => ?_); refine with_tabW signalbenchlaw44_TrigautoHolds.tab15 signalbenchlaw44_TrigautoHolds.bits15 (fun HT_ HW_ => ?_)
             generalize w65.drew = w66 at HO_357000 BK349 BK350 BK351 BK356 BK361 BK363 HB hHeld ⊢
             refine pure_ (i := 0) (N := some 57) (v := ?_) (a' := ?_) (bsq 1 9) rfl rfl (any_of HT_.out (by kernel_rfl)) (fun _ _ _ h => h) (Or.inl ⟨by rfl, ?_⟩) ?_ ?_
             rotate_left
             ·
              intro w'
              go_simp
              with_reducible rfl
             rotate_left
             ·
              simp only [Act.put, List.setIfInBounds_toArray, List.set_cons_zero, List.set_cons_succ, i64_w, i32_w]
              rfl
             refine pure_ (i := 4) (N := some 61) (v := ?_) (a' := ?_) #[true, false, false, false, true, false, false, false, false, false] rfl rfl (any_of HT_.out (by kernel_rfl)) (fun _ _ _ h => h) (Or.inl ⟨by rfl, ?_⟩) ?_ ?_
             rotate_left
             ·
              intro w'
              go_simp
              with_reducible rfl
             rotate_left
             ·
              simp only [Act.put, List.setIfInBounds_toArray, List.set_cons_zero, List.set_cons_succ, i64_w, i32_w]
              rfl
             refine take_ (i := 1) (N := some 58) (v := ?_) (a' := ?_) #[true, true, false, false, true, false, false, false, false, false] rfl rfl (take_ofW HT_.out HW_.out (by kernel_rfl)) (fun _ _ _ h => h) (Or.inl ⟨by rfl, ?_⟩) hHeld ?_ ?_
             rotate_left
             ·
              rintro w' ⟨s0, s1, s2, s3, s4, s5, s6, s7, s8, s9, s10, s11, s12, s13, s14, s15, s16, s17, s18, s19, s20, s21, s22, s23, s24, s25, s26, s27, s28, s29, s30, s31, s32, s33, s34, s35⟩
              go_simp
              with_reducible rfl
             rotate_left
             ·
              simp only [Act.put, List.setIfInBounds_toArray, List.set_cons_zero, List.set_cons_succ, i64_w, i32_w]
              rfl
             refine take_ (i := 2) (N := some 59) (v := ?_) (a' := ?_) #[true, true, true, false, true, false, false, false, false, false] rfl rfl (take_ofW HT_.out HW_.out (by kernel_rfl)) (fun _ _ _ h => h) (Or.inl ⟨by rfl, ?_⟩) hHeld ?_ ?_
             rotate_left
             ·
              rintro w' ⟨s0, s1, s2, s3, s4, s5, s6, s7, s8, s9, s10, s11, s12, s13, s14, s15, s16, s17, s18, s19, s20, s21, s22, s23, s24, s25, s26, s27, s28, s29, s30, s31, s32, s33, s34, s35⟩
              go_simp
              with_reducible rfl
             rotate_left
             ·
              simp only [Act.put, List.setIfInBounds_toArray, List.set_cons_zero, List.set_cons_succ, i64_w, i32_w]
              rfl
             refine take_ (i := 5) (N := some 62) (v := ?_) (a' := ?_) #[true, true, true, false, true, true, false, false, false, false] rfl rfl (take_ofW HT_.out HW_.out (by kernel_rfl)) (fun _ _ _ h => h) (Or.inl ⟨by rfl, ?_⟩) hHeld ?_ ?_
             rotate_left
             ·
              rintro w' ⟨s0, s1, s2, s3, s4, s5, s6, s7, s8, s9, s10, s11, s12, s13, s14, s15, s16, s17, s18, s19, s20, s21, s22, s23, s24, s25, s26, s27, s28, s29, s30, s31, s32, s33, s34, s35⟩
              go_simp
              with_reducible rfl
             rotate_left
             ·
              simp only [Act.put, List.setIfInBounds_toArray, List.set_cons_zero, List.set_cons_succ, i64_w, i32_w]
              rfl
             refine take_ (i := 6) (N := some 63) (v := ?_) (a' := ?_) #[true, true, true, false, true, true, true, false, false, false] rfl rfl (take_ofW HT_.out HW_.out (by kernel_rfl)) (fun _ _ _ h => h) (Or.inl ⟨by rfl, ?_⟩) hHeld ?_ ?_
             rotate_left
             ·
              rintro w' ⟨s0, s1, s2, s3, s4, s5, s6, s7, s8, s9, s10, s11, s12, s13, s14, s15, s16, s17, s18, s19, s20, s21, s22, s23, s24, s25, s26, s27, s28, s29, s30, s31, s32, s33, s34, s35⟩
              go_simp
              with_reducible rfl
             rotate_left
             ·
              simp only [Act.put, List.setIfInBounds_toArray, List.set_cons_zero, List.set_cons_succ, i64_w, i32_w]
              rfl
             refine take_ (i := 7) (N := some 64) (v := ?_) (a' := ?_) #[true, true, true, false, true, true, true, true, false, false] rfl rfl (take_ofW HT_.out HW_.out (by kernel_rfl)) (fun _ _ _ h => h) (Or.inl ⟨by rfl, ?_⟩) hHeld ?_ ?_
             rotate_left
             ·
              rintro w' ⟨s0, s1, s2, s3, s4, s5, s6, s7, s8, s9, s10, s11, s12, s13, s14, s15, s16, s17, s18, s19, s20, s21, s22, s23, s24, s25, s26, s27, s28, s29, s30, s31, s32, s33, s34, s35⟩
              go_simp
              with_reducible rfl
             rotate_left
             ·
              simp only [Act.put, List.setIfInBounds_toArray, List.set_cons_zero, List.set_cons_succ, i64_w, i32_w]
              rfl
             refine one_ (i := 3) (N := some 60) (bsq 8 2) rfl rfl (one_of HT_.out (by kernel_rfl)) (by decide) (fun K hK => ?_)
             refine goes_ Try.func23 (by kernel_rfl) rfl #[.agg #[.int .i64 ((rd_T50 t352 x9_2).f0.f0), .int .i64 ((rd_T50 t352 x9_2).f0.f1), .int .i64 ((rd_T50 t352 x9_2).f0.f2), .int .i64 ((rd_T50 t352 x9_2).f0.f3), .int .i64 ((rd_T50 t352 x9_2).f0.f4)], .agg #[.int .i64 a2_0, .int .i64 a2_1, .int .i64 a2_2, .int .i64 a2_3, .int .i64 a2_4, .int .i64 a2_5, .int .i64 a2_6, .string a2_7, .int .i64 a2_8]] (by rfl) rfl rfl (by (try simp only [List.map_toArray, List.map_cons, List.map_nil]); first | done | rfl | (simp only [List.length_drop, List.length_take]; rfl)) ?_
             with_reducible refine (trigauto_Holds.calls k2 ((rd_T50 t352 x9_2).f0.f0) ((rd_T50 t352 x9_2).f0.f1) ((rd_T50 t352 x9_2).f0.f2) ((rd_T50 t352 x9_2).f0.f3) ((rd_T50 t352 x9_2).f0.f4) a2_0 a2_1 a2_2 a2_3 a2_4 a2_5 a2_6 a2_7 a2_8 t364 _ A46.out).mono ?_
             rintro e w67 ⟨rfl, hb⟩
             refine ⟨_, rfl, ?_⟩
             have n0_ := Aside0.mk (Kd.R_below (by (with_reducible repeat (first | apply Kd.R_alloc | apply Kd.R_drewN | apply Kd.R_drew)); exact HO_357000.out) hb)
             have n1_ := Aside0.mk (blk_below (bg BK349.out) hb)
             have n2_ := Aside0.mk (blk_below (bg BK350.out) hb)
             have n3_ := Aside0.mk (blk_below (bg BK351.out) hb)
             have n4_ := Aside0.mk (blk_below (bg BK356.out) hb)
             have n5_ := Aside0.mk (blk_below (bg BK361.out) hb)
             have n6_ := Aside0.mk (blk_below (bg BK363.out) hb)
             have n7_ := Aside0.mk (below_step (bs HB.out) hb)
             clear HO_357000
             clear BK349
             clear BK350
             clear BK351
             clear BK356
             clear BK361
             clear BK363
             clear HB
             have HO_357000 := n0_
             have BK349 := n1_
             have BK350 := n2_
             have BK351 := n3_
             have BK356 := n4_
             have BK361 := n5_
             have BK363 := n6_
             have HB := n7_
             clear n0_ n1_ n2_ n3_ n4_ n5_ n6_ n7_
             (try clear hb)
             (try clear hb2)
             (try clear hk)
             (try clear hi)
             refine hK.out _ _ ⟨(blk_cell BK363.out 0).trans rfl, (blk_cell BK363.out 1).trans rfl, (blk_cell BK363.out 2).trans rfl, (blk_cell BK363.out 3).trans rfl, (blk_cell BK363.out 4).trans rfl, (blk_cell BK363.out 5).trans rfl, (blk_cell BK363.out 6).trans rfl, (blk_cell BK363.out 7).trans rfl, (blk_cell BK363.out 8).trans rfl, (blk_cell BK363.out 9).trans rfl, (blk_cell BK363.out 10).trans rfl, (blk_cell BK363.out 11).trans rfl, (blk_cell BK351.out 0).trans rfl, (blk_cell BK351.out 1).trans rfl, (blk_cell BK351.out 2).trans rfl, (blk_cell BK351.out 3).trans rfl, (blk_cell BK351.out 4).trans rfl, (blk_cell BK351.out 5).trans rfl, (blk_cell BK351.out 6).trans rfl, (blk_cell BK351.out 7).trans rfl, (blk_cell BK351.out 8).trans rfl, (blk_cell BK361.out 0).trans rfl, (blk_cell BK361.out 1).trans rfl, (blk_cell BK361.out 2).trans rfl, (blk_cell BK361.out 3).trans rfl, (blk_cell BK361.out 4).trans rfl, (blk_cell BK361.out 5).trans rfl, (blk_cell BK361.out 6).trans rfl, (blk_cell BK361.out 7).trans rfl, (blk_cell BK361.out 8).trans rfl, (blk_cell BK361.out 9).trans rfl, (blk_cell BK361.out 10).trans rfl, (blk_cell BK361.out 11).trans rfl, (blk_cell BK361.out 12).trans rfl, (blk_cell BK350.out 0).trans rfl, (blk_cell BK350.out 1).trans rfl⟩ (fun hHeld => ?_)
             clear hK K
             refine norm_ (a' := ?_) ?_ ?_
             rotate_left
             ·
              show Act.put _ (some 60) _ = _
              simp only [Act.put, List.setIfInBounds_toArray, List.set_cons_zero, List.set_cons_succ, i64_w, i32_w]
              rfl
             refine one_ (i := 8) (N := some 65) (bsq 9 1) rfl rfl (one_of HT_.out (by kernel_rfl)) (by decide) (fun K hK => ?_)
             refine goes_ Try.func37 (by kernel_rfl) rfl #[.agg #[.string ((rd_T64 l0_1 x10_1).f0.f0), .int .i64 ((rd_T64 l0_1 x10_1).f0.f1), .int .i64 ((rd_T64 l0_1 x10_1).f0.f2), .int .i64 ((rd_T64 l0_1 x10_1).f0.f3), .int .i64 ((rd_T64 l0_1 x10_1).f0.f4)], .agg #[.slice A1_0 l1_0.length c1_0, .slice A1_1 l1_1.length c1_1], .agg #[.int .i64 a2_0, .int .i64 a2_1, .int .i64 a2_2, .int .i64 a2_3, .int .i64 a2_4, .int .i64 a2_5, .int .i64 a2_6, .string a2_7, .int .i64 a2_8]] (by rfl) rfl rfl (by (try simp only [List.map_toArray, List.map_cons, List.map_nil]); first | done | rfl | (simp only [List.length_drop, List.length_take]; rfl)) ?_
             with_reducible refine (trig_Holds.calls k2 ((rd_T64 l0_1 x10_1).f0.f0) ((rd_T64 l0_1 x10_1).f0.f1) ((rd_T64 l0_1 x10_1).f0.f2) ((rd_T64 l0_1 x10_1).f0.f3) ((rd_T64 l0_1 x10_1).f0.f4) _ _ l1_0 _ _ l1_1 a2_0 a2_1 a2_2 a2_3 a2_4 a2_5 a2_6 a2_7 a2_8 t365 _ ?side1 ?side2 ?side3 ?side4 A47.out).mono ?_
             (case side1 => repeat (first | exact (Kd.C_below HR1_0.out HB.out) | (with_reducible refine Kd.C_alloc ?_ _) | (with_reducible refine Kd.C_drewN ?_ _) | (with_reducible refine Kd.C_drew ?_)))
             (case side2 => exact HC1_0.out)
             (case side3 => repeat (first | exact (Kd.C_below HR1_1.out HB.out) | (with_reducible refine Kd.C_alloc ?_ _) | (with_reducible refine Kd.C_drewN ?_ _) | (with_reducible refine Kd.C_drew ?_)))
             (case side4 => exact HC1_1.out)
             rintro e w68 ⟨rfl, hb⟩
             refine ⟨_, rfl, ?_⟩
             have n0_ := Aside0.mk (Kd.R_below (by (with_reducible repeat (first | apply Kd.R_alloc | apply Kd.R_drewN | apply Kd.R_drew)); exact HO_357000.out) hb)
             have n1_ := Aside0.mk (blk_below (bg BK349.out) hb)
             have n2_ := Aside0.mk (blk_below (bg BK350.out) hb)
             have n3_ := Aside0.mk (blk_below (bg BK351.out) hb)
             have n4_ := Aside0.mk (blk_below (bg BK356.out) hb)
             have n5_ := Aside0.mk (blk_below (bg BK361.out) hb)
             have n6_ := Aside0.mk (blk_below (bg BK363.out) hb)
             have n7_ := Aside0.mk (below_step (bs HB.out) hb)
             clear HO_357000
             clear BK349
             clear BK350
             clear BK351
             clear BK356
             clear BK361
             clear BK363
             clear HB
             have HO_357000 := n0_
             have BK349 := n1_
             have BK350 := n2_
             have BK351 := n3_
             have BK356 := n4_
             have BK361 := n5_
             have BK363 := n6_
             have HB := n7_
             clear n0_ n1_ n2_ n3_ n4_ n5_ n6_ n7_
             (try clear hb)
             (try clear hb2)
             (try clear hk)
             (try clear hi)
             refine hK.out _ _ ⟨(blk_cell BK363.out 0).trans rfl, (blk_cell BK363.out 1).trans rfl, (blk_cell BK363.out 2).trans rfl, (blk_cell BK363.out 3).trans rfl, (blk_cell BK363.out 4).trans rfl, (blk_cell BK363.out 5).trans rfl, (blk_cell BK363.out 6).trans rfl, (blk_cell BK363.out 7).trans rfl, (blk_cell BK363.out 8).trans rfl, (blk_cell BK363.out 9).trans rfl, (blk_cell BK363.out 10).trans rfl, (blk_cell BK363.out 11).trans rfl, (blk_cell BK351.out 0).trans rfl, (blk_cell BK351.out 1).trans rfl, (blk_cell BK351.out 2).trans rfl, (blk_cell BK351.out 3).trans rfl, (blk_cell BK351.out 4).trans rfl, (blk_cell BK351.out 5).trans rfl, (blk_cell BK351.out 6).trans rfl, (blk_cell BK351.out 7).trans rfl, (blk_cell BK351.out 8).trans rfl, (blk_cell BK361.out 0).trans rfl, (blk_cell BK361.out 1).trans rfl, (blk_cell BK361.out 2).trans rfl, (blk_cell BK361.out 3).trans rfl, (blk_cell BK361.out 4).trans rfl, (blk_cell BK361.out 5).trans rfl, (blk_cell BK361.out 6).trans rfl, (blk_cell BK361.out 7).trans rfl, (blk_cell BK361.out 8).trans rfl, (blk_cell BK361.out 9).trans rfl, (blk_cell BK361.out 10).trans rfl, (blk_cell BK361.out 11).trans rfl, (blk_cell BK361.out 12).trans rfl, (blk_cell BK350.out 0).trans rfl, (blk_cell BK350.out 1).trans rfl⟩ (fun hHeld => ?_)
             clear hK K
             refine norm_ (a' := ?_) ?_ ?_
             rotate_left
             ·
              show Act.put _ (some 65) _ = _
              simp only [Act.put, List.setIfInBounds_toArray, List.set_cons_zero, List.set_cons_succ, i64_w, i32_w]
              rfl
             refine pure_ (i := 9) (N := some 66) (v := ?_) (a' := ?_) (bsq 10 0) rfl rfl (any_of HT_.out (by kernel_rfl)) (fun _ _ _ h => h) (Or.inl ⟨by rfl, ?_⟩) ?_ ?_
             rotate_left
             ·
              intro w'
              go_simp
              with_reducible rfl
             rotate_left
             ·
              simp only [Act.put, List.setIfInBounds_toArray, List.set_cons_zero, List.set_cons_succ, i64_w, i32_w]
              rfl
             refine done_ (done_of HT_.out (by kernel_rfl)) ?_
             try go_wp2
             go_ret
             exact ⟨by first | rfl | (simp [errW_none, errW_some] <;> rfl) | (simp [*, errW_none, errW_some] <;> rfl), bs HB.out⟩
            ·
             rw [if_neg c48] at H
             have c48b0 : (t364 != t365) = false := by simpa using c48
             (try (have c48b1 : decide (t364 = t365) = true := by simpa using c48))
             (try (have c48b2 : (t364 == t365) = true := by simpa using c48))
             clear c48
             have HC69 := Aside0.mk H
             clear H
             have hnb70 := NB361_349.out
             have hnc70 := NB349_361.out
             have hnb71 := NB361_350.out
             have hnc71 := NB350_361.out
             have hnb72 := NB361_351.out
             have hnc72 := NB351_361.out
             have hnb73 := NB361_356.out
             have hnc73 := NB356_361.out
             obtain ⟨hcz74_0, hcz74_1, hcz74_2, hcz74_3, hcz74_4, hcz74_5, hcz74_6, hcz74_7, hcz74_8, hcz74_9, hcz74_10, hcz74_11, hcz74_12⟩ := bc13 BK361.out
             obtain ⟨hfz74_0, hfz74_1, hfz74_2, hfz74_3, hfz74_4, hfz74_5, hfz74_6, hfz74_7, hfz74_8, hfz74_9, hfz74_10, hfz74_11, hfz74_12⟩ := bf13 BK361.out
             have hnb75 := NB356_349.out
             have hnc75 := NB349_356.out
             have hnb76 := NB356_350.out
             have hnc76 := NB350_356.out
             have hnb77 := NB356_351.out
             have hnc77 := NB351_356.out
             have hcz78_0 : wr.cell? ⟨gb356, 0, none⟩ = some (.slice Ao16 t352.length co16) := (blk_cell BK356.out 0).trans rfl
             have hfz78_0 := blk_frozen BK356.out 0
             have p362 : 0 ≤ (x9_2 : Int) := of_decide_eq_true (by first | (with_reducible assumption) | assumption)
             have q362 : x9_2 < (t352.length : Int) := of_decide_eq_true (by first | (with_reducible assumption) | assumption)
             obtain ⟨ad362, e362, hx362_0, hx362_1, hx362_2, hx362_3, hx362_4, hx362_5, hx362_6, hx362_7, hx362_8, hx362_9, hx362_10, hx362_11⟩ := at_T50 (Kd.R_reads' HO_357000.out).2.2 x9_2 p362 q362
             cases e362
             replace p362 := eq_true p362
             replace q362 := eq_true q362
             try go_wp2_with (first | ((with_reducible refine gate_dst (N := 13) rfl ?_); refine box_event ?hg (N := 13) ?hd (cs := #[.int .i64 0, .int .i64 0, .int .i64 0, .int .i64 0, .int .i64 0, .int .i64 0, .bool false, .int .i64 0, .int .i64 0, .int .i64 0, .int .i64 0, .int .i64 0]) (t := 50) ?hr ?_; (case hd => rfl); (case hg => rfl); (case hr => first | (go_simp; done) | (go_simp; rfl)); intro gb363 hg w79 hbox hb; have n0_ := Aside0.mk (Kd.R_below (Kd.R_elderB (by (with_reducible repeat (first | apply Kd.R_alloc | apply Kd.R_drewN | apply Kd.R_drew)); exact HO_357000.out) gb363 (Nat.le_of_eq hg.symm)) hb); have n1_ := Aside0.mk (blk_below (bg BK349.out) hb); have n2_ := Aside0.mk (blk_below (bg BK350.out) hb); have n3_ := Aside0.mk (blk_below (bg BK351.out) hb); have n4_ := Aside0.mk (blk_below (bg BK356.out) hb); have n5_ := Aside0.mk (blk_below (bg BK361.out) hb); have n6_ := Aside0.mk (below_step (bs HB.out) hb); have n7_ := Aside0.mk (hbox); have n8_ := Aside0.mk ((by rw [hg]; exact (below_size (bs HB.out)) : w.heap.size ≤ gb363)); have n9_ := n8_; have n10_ := Aside0.mk ((by rw [hg]; exact Nat.ne_of_lt (blk_lt (bg BK349.out)) : gb349 ≠ gb363)); have n11_ := Aside0.mk ((by rw [hg]; exact Nat.ne_of_gt (blk_lt (bg BK349.out)) : gb363 ≠ gb349)); have n12_ := Aside0.mk ((by rw [hg]; exact Nat.ne_of_lt (blk_lt (bg BK350.out)) : gb350 ≠ gb363)); have n13_ := Aside0.mk ((by rw [hg]; exact Nat.ne_of_gt (blk_lt (bg BK350.out)) : gb363 ≠ gb350)); have n14_ := Aside0.mk ((by rw [hg]; exact Nat.ne_of_lt (blk_lt (bg BK351.out)) : gb351 ≠ gb363)); have n15_ := Aside0.mk ((by rw [hg]; exact Nat.ne_of_gt (blk_lt (bg BK351.out)) : gb363 ≠ gb351)); have n16_ := Aside0.mk ((by rw [hg]; exact Nat.ne_of_lt (blk_lt (bg BK356.out)) : gb356 ≠ gb363)); have n17_ := Aside0.mk ((by rw [hg]; exact Nat.ne_of_gt (blk_lt (bg BK356.out)) : gb363 ≠ gb356)); have n18_ := Aside0.mk ((by rw [hg]; exact Nat.ne_of_lt (blk_lt (bg BK361.out)) : gb361 ≠ gb363)); have n19_ := Aside0.mk ((by rw [hg]; exact Nat.ne_of_gt (blk_lt (bg BK361.out)) : gb363 ≠ gb361)); clear HO_357000; clear BK349; clear BK350; clear BK351; clear BK356; clear BK361; clear HB; have HO_357000 := n0_; have BK349 := n1_; have BK350 := n2_; have BK351 := n3_; have BK356 := n4_; have BK361 := n5_; have HB := n6_; have BK363 := n7_; have GW363 := n8_; have GE363 := n9_; have NB349_363 := n10_; have NB363_349 := n11_; have NB350_363 := n12_; have NB363_350 := n13_; have NB351_363 := n14_; have NB363_351 := n15_; have NB356_363 := n16_; have NB363_356 := n17_; have NB361_363 := n18_; have NB363_361 := n19_; clear n0_ n1_ n2_ n3_ n4_ n5_ n6_ n7_ n8_ n9_ n10_ n11_ n12_ n13_ n14_ n15_ n16_ n17_ n18_ n19_; clear hb hbox hg; have hnb80 := NB363_349.out; have hnc80 := NB349_363.out; have hnb81 := NB363_350.out; have hnc81 := NB350_363.out; have hnb82 := NB363_351.out; have hnc82 := NB351_363.out; have hnb83 := NB363_356.out; have hnc83 := NB356_363.out; have hnb84 := NB363_361.out; have hnc84 := NB361_363.out; obtain ⟨hcz85_0, hcz85_1, hcz85_2, hcz85_3, hcz85_4, hcz85_5, hcz85_6, hcz85_7, hcz85_8, hcz85_9, hcz85_10, hcz85_11⟩ := bc12 BK363.out; obtain ⟨hfz85_0, hfz85_1, hfz85_2, hfz85_3, hfz85_4, hfz85_5, hfz85_6, hfz85_7, hfz85_8, hfz85_9, hfz85_10, hfz85_11⟩ := bf12 BK363.out))
             have n0_ : Aside0 (Kd.R k50 50 ((((((((((((w79.setCell ⟨gb363, 0, none⟩ (.int .i64 ((rd_T50 t352 x9_2).f0.f0))).setCell ⟨gb363, 1, none⟩ (.int .i64 ((rd_T50 t352 x9_2).f0.f1))).setCell ⟨gb363, 2, none⟩ (.int .i64 ((rd_T50 t352 x9_2).f0.f2))).setCell ⟨gb363, 3, none⟩ (.int .i64 ((rd_T50 t352 x9_2).f0.f3))).setCell ⟨gb363, 4, none⟩ (.int .i64 ((rd_T50 t352 x9_2).f0.f4))).setCell ⟨gb363, 5, none⟩ (.int .i64 ((rd_T50 t352 x9_2).f1))).setCell ⟨gb363, 6, none⟩ (.bool ((rd_T50 t352 x9_2).f2))).setCell ⟨gb363, 7, none⟩ (.int .i64 ((rd_T50 t352 x9_2).f3.f0))).setCell ⟨gb363, 8, none⟩ (.int .i64 ((rd_T50 t352 x9_2).f3.f1))).setCell ⟨gb363, 9, none⟩ (.int .i64 ((rd_T50 t352 x9_2).f3.f2))).setCell ⟨gb363, 10, none⟩ (.int .i64 ((rd_T50 t352 x9_2).f3.f3))).setCell ⟨gb363, 11, none⟩ (.int .i64 ((rd_T50 t352 x9_2).f3.f4))) w.heap.size (fun k_ => k_ ≠ gb363) (.slice (some ad362) t352.length co16) t352) := ⟨by (with_reducible repeat (first | apply Kd.R_alloc | apply Kd.R_drewN | apply Kd.R_drew)); exact Kd.R_mono (Kd.R_far (p := ⟨gb363, 11, none⟩) (Kd.R_far (p := ⟨gb363, 10, none⟩) (Kd.R_far (p := ⟨gb363, 9, none⟩) (Kd.R_far (p := ⟨gb363, 8, none⟩) (Kd.R_far (p := ⟨gb363, 7, none⟩) (Kd.R_far (p := ⟨gb363, 6, none⟩) (Kd.R_far (p := ⟨gb363, 5, none⟩) (Kd.R_far (p := ⟨gb363, 4, none⟩) (Kd.R_far (p := ⟨gb363, 3, none⟩) (Kd.R_far (p := ⟨gb363, 2, none⟩) (Kd.R_far (p := ⟨gb363, 1, none⟩) (Kd.R_far (p := ⟨gb363, 0, none⟩) (Kd.R_mono HO_357000.out (fun k_ hk => (⟨hk, hk.2⟩ : _ ∧ k_ ≠ gb363))) (fun _ hk => hk.2) (.int .i64 ((rd_T50 t352 x9_2).f0.f0))) (fun _ hk => hk.2) (.int .i64 ((rd_T50 t352 x9_2).f0.f1))) (fun _ hk => hk.2) (.int .i64 ((rd_T50 t352 x9_2).f0.f2))) (fun _ hk => hk.2) (.int .i64 ((rd_T50 t352 x9_2).f0.f3))) (fun _ hk => hk.2) (.int .i64 ((rd_T50 t352 x9_2).f0.f4))) (fun _ hk => hk.2) (.int .i64 ((rd_T50 t352 x9_2).f1))) (fun _ hk => hk.2) (.bool ((rd_T50 t352 x9_2).f2))) (fun _ hk => hk.2) (.int .i64 ((rd_T50 t352 x9_2).f3.f0))) (fun _ hk => hk.2) (.int .i64 ((rd_T50 t352 x9_2).f3.f1))) (fun _ hk => hk.2) (.int .i64 ((rd_T50 t352 x9_2).f3.f2))) (fun _ hk => hk.2) (.int .i64 ((rd_T50 t352 x9_2).f3.f3))) (fun _ hk => hk.2) (.int .i64 ((rd_T50 t352 x9_2).f3.f4))) (fun _ hk => hk.1.2)⟩
             have n1_ : Aside0 (((((((((((((w79.setCell ⟨gb363, 0, none⟩ (.int .i64 ((rd_T50 t352 x9_2).f0.f0))).setCell ⟨gb363, 1, none⟩ (.int .i64 ((rd_T50 t352 x9_2).f0.f1))).setCell ⟨gb363, 2, none⟩ (.int .i64 ((rd_T50 t352 x9_2).f0.f2))).setCell ⟨gb363, 3, none⟩ (.int .i64 ((rd_T50 t352 x9_2).f0.f3))).setCell ⟨gb363, 4, none⟩ (.int .i64 ((rd_T50 t352 x9_2).f0.f4))).setCell ⟨gb363, 5, none⟩ (.int .i64 ((rd_T50 t352 x9_2).f1))).setCell ⟨gb363, 6, none⟩ (.bool ((rd_T50 t352 x9_2).f2))).setCell ⟨gb363, 7, none⟩ (.int .i64 ((rd_T50 t352 x9_2).f3.f0))).setCell ⟨gb363, 8, none⟩ (.int .i64 ((rd_T50 t352 x9_2).f3.f1))).setCell ⟨gb363, 9, none⟩ (.int .i64 ((rd_T50 t352 x9_2).f3.f2))).setCell ⟨gb363, 10, none⟩ (.int .i64 ((rd_T50 t352 x9_2).f3.f3))).setCell ⟨gb363, 11, none⟩ (.int .i64 ((rd_T50 t352 x9_2).f3.f4))).heap[gb349]? = some (.cells #[.string a0_0, .slice (some ad360) l0_1.length c0_1] 24 (0, 0))) := ⟨by (iterate 12 (with_reducible repeat (first | refine blk_drewN ?_ _ | refine blk_drew ?_ | refine blk_alloc ?_ _)); refine blk_far ?_ NB349_363.out _); exact bg BK349.out⟩
             have n2_ : Aside0 (((((((((((((w79.setCell ⟨gb363, 0, none⟩ (.int .i64 ((rd_T50 t352 x9_2).f0.f0))).setCell ⟨gb363, 1, none⟩ (.int .i64 ((rd_T50 t352 x9_2).f0.f1))).setCell ⟨gb363, 2, none⟩ (.int .i64 ((rd_T50 t352 x9_2).f0.f2))).setCell ⟨gb363, 3, none⟩ (.int .i64 ((rd_T50 t352 x9_2).f0.f3))).setCell ⟨gb363, 4, none⟩ (.int .i64 ((rd_T50 t352 x9_2).f0.f4))).setCell ⟨gb363, 5, none⟩ (.int .i64 ((rd_T50 t352 x9_2).f1))).setCell ⟨gb363, 6, none⟩ (.bool ((rd_T50 t352 x9_2).f2))).setCell ⟨gb363, 7, none⟩ (.int .i64 ((rd_T50 t352 x9_2).f3.f0))).setCell ⟨gb363, 8, none⟩ (.int .i64 ((rd_T50 t352 x9_2).f3.f1))).setCell ⟨gb363, 9, none⟩ (.int .i64 ((rd_T50 t352 x9_2).f3.f2))).setCell ⟨gb363, 10, none⟩ (.int .i64 ((rd_T50 t352 x9_2).f3.f3))).setCell ⟨gb363, 11, none⟩ (.int .i64 ((rd_T50 t352 x9_2).f3.f4))).heap[gb350]? = some (.cells #[.slice A1_0 l1_0.length c1_0, .slice A1_1 l1_1.length c1_1] 28 (0, 0))) := ⟨by (iterate 12 (with_reducible repeat (first | refine blk_drewN ?_ _ | refine blk_drew ?_ | refine blk_alloc ?_ _)); refine blk_far ?_ NB350_363.out _); exact bg BK350.out⟩
             have n3_ : Aside0 (((((((((((((w79.setCell ⟨gb363, 0, none⟩ (.int .i64 ((rd_T50 t352 x9_2).f0.f0))).setCell ⟨gb363, 1, none⟩ (.int .i64 ((rd_T50 t352 x9_2).f0.f1))).setCell ⟨gb363, 2, none⟩ (.int .i64 ((rd_T50 t352 x9_2).f0.f2))).setCell ⟨gb363, 3, none⟩ (.int .i64 ((rd_T50 t352 x9_2).f0.f3))).setCell ⟨gb363, 4, none⟩ (.int .i64 ((rd_T50 t352 x9_2).f0.f4))).setCell ⟨gb363, 5, none⟩ (.int .i64 ((rd_T50 t352 x9_2).f1))).setCell ⟨gb363, 6, none⟩ (.bool ((rd_T50 t352 x9_2).f2))).setCell ⟨gb363, 7, none⟩ (.int .i64 ((rd_T50 t352 x9_2).f3.f0))).setCell ⟨gb363, 8, none⟩ (.int .i64 ((rd_T50 t352 x9_2).f3.f1))).setCell ⟨gb363, 9, none⟩ (.int .i64 ((rd_T50 t352 x9_2).f3.f2))).setCell ⟨gb363, 10, none⟩ (.int .i64 ((rd_T50 t352 x9_2).f3.f3))).setCell ⟨gb363, 11, none⟩ (.int .i64 ((rd_T50 t352 x9_2).f3.f4))).heap[gb351]? = some (.cells #[.int .i64 a2_0, .int .i64 a2_1, .int .i64 a2_2, .int .i64 a2_3, .int .i64 a2_4, .int .i64 a2_5, .int .i64 a2_6, .string a2_7, .int .i64 a2_8] 46 (0, 0))) := ⟨by (iterate 12 (with_reducible repeat (first | refine blk_drewN ?_ _ | refine blk_drew ?_ | refine blk_alloc ?_ _)); refine blk_far ?_ NB351_363.out _); exact bg BK351.out⟩
             have n4_ : Aside0 (((((((((((((w79.setCell ⟨gb363, 0, none⟩ (.int .i64 ((rd_T50 t352 x9_2).f0.f0))).setCell ⟨gb363, 1, none⟩ (.int .i64 ((rd_T50 t352 x9_2).f0.f1))).setCell ⟨gb363, 2, none⟩ (.int .i64 ((rd_T50 t352 x9_2).f0.f2))).setCell ⟨gb363, 3, none⟩ (.int .i64 ((rd_T50 t352 x9_2).f0.f3))).setCell ⟨gb363, 4, none⟩ (.int .i64 ((rd_T50 t352 x9_2).f0.f4))).setCell ⟨gb363, 5, none⟩ (.int .i64 ((rd_T50 t352 x9_2).f1))).setCell ⟨gb363, 6, none⟩ (.bool ((rd_T50 t352 x9_2).f2))).setCell ⟨gb363, 7, none⟩ (.int .i64 ((rd_T50 t352 x9_2).f3.f0))).setCell ⟨gb363, 8, none⟩ (.int .i64 ((rd_T50 t352 x9_2).f3.f1))).setCell ⟨gb363, 9, none⟩ (.int .i64 ((rd_T50 t352 x9_2).f3.f2))).setCell ⟨gb363, 10, none⟩ (.int .i64 ((rd_T50 t352 x9_2).f3.f3))).setCell ⟨gb363, 11, none⟩ (.int .i64 ((rd_T50 t352 x9_2).f3.f4))).heap[gb356]? = some (.cells #[.slice (some ad362) t352.length co16] 31 (0, 0))) := ⟨by (iterate 12 (with_reducible repeat (first | refine blk_drewN ?_ _ | refine blk_drew ?_ | refine blk_alloc ?_ _)); refine blk_far ?_ NB356_363.out _); exact bg BK356.out⟩
             have n5_ : Aside0 (((((((((((((w79.setCell ⟨gb363, 0, none⟩ (.int .i64 ((rd_T50 t352 x9_2).f0.f0))).setCell ⟨gb363, 1, none⟩ (.int .i64 ((rd_T50 t352 x9_2).f0.f1))).setCell ⟨gb363, 2, none⟩ (.int .i64 ((rd_T50 t352 x9_2).f0.f2))).setCell ⟨gb363, 3, none⟩ (.int .i64 ((rd_T50 t352 x9_2).f0.f3))).setCell ⟨gb363, 4, none⟩ (.int .i64 ((rd_T50 t352 x9_2).f0.f4))).setCell ⟨gb363, 5, none⟩ (.int .i64 ((rd_T50 t352 x9_2).f1))).setCell ⟨gb363, 6, none⟩ (.bool ((rd_T50 t352 x9_2).f2))).setCell ⟨gb363, 7, none⟩ (.int .i64 ((rd_T50 t352 x9_2).f3.f0))).setCell ⟨gb363, 8, none⟩ (.int .i64 ((rd_T50 t352 x9_2).f3.f1))).setCell ⟨gb363, 9, none⟩ (.int .i64 ((rd_T50 t352 x9_2).f3.f2))).setCell ⟨gb363, 10, none⟩ (.int .i64 ((rd_T50 t352 x9_2).f3.f3))).setCell ⟨gb363, 11, none⟩ (.int .i64 ((rd_T50 t352 x9_2).f3.f4))).heap[gb361]? = some (.cells #[.string ((rd_T64 l0_1 x10_1).f0.f0), .int .i64 ((rd_T64 l0_1 x10_1).f0.f1), .int .i64 ((rd_T64 l0_1 x10_1).f0.f2), .int .i64 ((rd_T64 l0_1 x10_1).f0.f3), .int .i64 ((rd_T64 l0_1 x10_1).f0.f4), .int .i64 ((rd_T64 l0_1 x10_1).f1), .int .i64 ((rd_T64 l0_1 x10_1).f2), .bool ((rd_T64 l0_1 x10_1).f3), .string ((rd_T64 l0_1 x10_1).f4.f0), .int .i64 ((rd_T64 l0_1 x10_1).f4.f1), .int .i64 ((rd_T64 l0_1 x10_1).f4.f2), .int .i64 ((rd_T64 l0_1 x10_1).f4.f3), .int .i64 ((rd_T64 l0_1 x10_1).f4.f4)] 64 (0, 0))) := ⟨by (iterate 12 (with_reducible repeat (first | refine blk_drewN ?_ _ | refine blk_drew ?_ | refine blk_alloc ?_ _)); refine blk_far ?_ NB361_363.out _); exact bg BK361.out⟩
             have n6_ : Aside0 (((((((((((((w79.setCell ⟨gb363, 0, none⟩ (.int .i64 ((rd_T50 t352 x9_2).f0.f0))).setCell ⟨gb363, 1, none⟩ (.int .i64 ((rd_T50 t352 x9_2).f0.f1))).setCell ⟨gb363, 2, none⟩ (.int .i64 ((rd_T50 t352 x9_2).f0.f2))).setCell ⟨gb363, 3, none⟩ (.int .i64 ((rd_T50 t352 x9_2).f0.f3))).setCell ⟨gb363, 4, none⟩ (.int .i64 ((rd_T50 t352 x9_2).f0.f4))).setCell ⟨gb363, 5, none⟩ (.int .i64 ((rd_T50 t352 x9_2).f1))).setCell ⟨gb363, 6, none⟩ (.bool ((rd_T50 t352 x9_2).f2))).setCell ⟨gb363, 7, none⟩ (.int .i64 ((rd_T50 t352 x9_2).f3.f0))).setCell ⟨gb363, 8, none⟩ (.int .i64 ((rd_T50 t352 x9_2).f3.f1))).setCell ⟨gb363, 9, none⟩ (.int .i64 ((rd_T50 t352 x9_2).f3.f2))).setCell ⟨gb363, 10, none⟩ (.int .i64 ((rd_T50 t352 x9_2).f3.f3))).setCell ⟨gb363, 11, none⟩ (.int .i64 ((rd_T50 t352 x9_2).f3.f4))).heap[gb363]? = some (.cells #[.int .i64 ((rd_T50 t352 x9_2).f0.f0), .int .i64 ((rd_T50 t352 x9_2).f0.f1), .int .i64 ((rd_T50 t352 x9_2).f0.f2), .int .i64 ((rd_T50 t352 x9_2).f0.f3), .int .i64 ((rd_T50 t352 x9_2).f0.f4), .int .i64 ((rd_T50 t352 x9_2).f1), .bool ((rd_T50 t352 x9_2).f2), .int .i64 ((rd_T50 t352 x9_2).f3.f0), .int .i64 ((rd_T50 t352 x9_2).f3.f1), .int .i64 ((rd_T50 t352 x9_2).f3.f2), .int .i64 ((rd_T50 t352 x9_2).f3.f3), .int .i64 ((rd_T50 t352 x9_2).f3.f4)] 50 (0, 0))) := ⟨by exact pt12 (bg BK363.out)⟩
             have n7_ : Aside0 (Below w.heap.size w ((((((((((((w79.setCell ⟨gb363, 0, none⟩ (.int .i64 ((rd_T50 t352 x9_2).f0.f0))).setCell ⟨gb363, 1, none⟩ (.int .i64 ((rd_T50 t352 x9_2).f0.f1))).setCell ⟨gb363, 2, none⟩ (.int .i64 ((rd_T50 t352 x9_2).f0.f2))).setCell ⟨gb363, 3, none⟩ (.int .i64 ((rd_T50 t352 x9_2).f0.f3))).setCell ⟨gb363, 4, none⟩ (.int .i64 ((rd_T50 t352 x9_2).f0.f4))).setCell ⟨gb363, 5, none⟩ (.int .i64 ((rd_T50 t352 x9_2).f1))).setCell ⟨gb363, 6, none⟩ (.bool ((rd_T50 t352 x9_2).f2))).setCell ⟨gb363, 7, none⟩ (.int .i64 ((rd_T50 t352 x9_2).f3.f0))).setCell ⟨gb363, 8, none⟩ (.int .i64 ((rd_T50 t352 x9_2).f3.f1))).setCell ⟨gb363, 9, none⟩ (.int .i64 ((rd_T50 t352 x9_2).f3.f2))).setCell ⟨gb363, 10, none⟩ (.int .i64 ((rd_T50 t352 x9_2).f3.f3))).setCell ⟨gb363, 11, none⟩ (.int .i64 ((rd_T50 t352 x9_2).f3.f4)))) := ⟨bs HB.out⟩
             (try clear HO_357000)
             (try clear BK349)
             (try clear BK350)
             (try clear BK351)
             (try clear BK356)
             (try clear BK361)
             (try clear BK363)
             (try clear HB)
             generalize ((((((((((((w79.setCell ⟨gb363, 0, none⟩ (.int .i64 ((rd_T50 t352 x9_2).f0.f0))).setCell ⟨gb363, 1, none⟩ (.int .i64 ((rd_T50 t352 x9_2).f0.f1))).setCell ⟨gb363, 2, none⟩ (.int .i64 ((rd_T50 t352 x9_2).f0.f2))).setCell ⟨gb363, 3, none⟩ (.int .i64 ((rd_T50 t352 x9_2).f0.f3))).setCell ⟨gb363, 4, none⟩ (.int .i64 ((rd_T50 t352 x9_2).f0.f4))).setCell ⟨gb363, 5, none⟩ (.int .i64 ((rd_T50 t352 x9_2).f1))).setCell ⟨gb363, 6, none⟩ (.bool ((rd_T50 t352 x9_2).f2))).setCell ⟨gb363, 7, none⟩ (.int .i64 ((rd_T50 t352 x9_2).f3.f0))).setCell ⟨gb363, 8, none⟩ (.int .i64 ((rd_T50 t352 x9_2).f3.f1))).setCell ⟨gb363, 9, none⟩ (.int .i64 ((rd_T50 t352 x9_2).f3.f2))).setCell ⟨gb363, 10, none⟩ (.int .i64 ((rd_T50 t352 x9_2).f3.f3))).setCell ⟨gb363, 11, none⟩ (.int .i64 ((rd_T50 t352 x9_2).f3.f4))) = w86 at n0_ n1_ n2_ n3_ n4_ n5_ n6_ n7_ ⊢
             have HO_357000 := n0_
             have BK349 := n1_
             have BK350 := n2_
             have BK351 := n3_
             have BK356 := n4_
             have BK361 := n5_
             have BK363 := n6_
             have HB := n7_
             clear n0_ n1_ n2_ n3_ n4_ n5_ n6_ n7_
             have n0_ := Aside0.mk (Kd.R_drew HO_357000.out)
             have n1_ := Aside0.mk (blk_drew BK349.out)
             have n2_ := Aside0.mk (blk_drew BK350.out)
             have n3_ := Aside0.mk (blk_drew BK351.out)
             have n4_ := Aside0.mk (blk_drew BK356.out)
             have n5_ := Aside0.mk (blk_drew BK361.out)
             have n6_ := Aside0.mk (blk_drew BK363.out)
             have n7_ := Aside0.mk (below_drew1 HB.out)
             clear HO_357000
             clear BK349
             clear BK350
             clear BK351
             clear BK356
             clear BK361
             clear BK363
             clear HB
             have HO_357000 := n0_
             have BK349 := n1_
             have BK350 := n2_
             have BK351 := n3_
             have BK356 := n4_
             have BK361 := n5_
             have BK363 := n6_
             have HB := n7_
             clear n0_ n1_ n2_ n3_ n4_ n5_ n6_ n7_
             refine start_ (n := 10) (S := fun w' => w'.cell? ⟨gb363, 0, none⟩ = some (.int .i64 ((rd_T50 t352 x9_2).f0.f0)) ∧ w'.cell? ⟨gb363, 1, none⟩ = some (.int .i64 ((rd_T50 t352 x9_2).f0.f1)) ∧ w'.cell? ⟨gb363, 2, none⟩ = some (.int .i64 ((rd_T50 t352 x9_2).f0.f2)) ∧ w'.cell? ⟨gb363, 3, none⟩ = some (.int .i64 ((rd_T50 t352 x9_2).f0.f3)) ∧ w'.cell? ⟨gb363, 4, none⟩ = some (.int .i64 ((rd_T50 t352 x9_2).f0.f4)) ∧ w'.cell? ⟨gb363, 5, none⟩ = some (.int .i64 ((rd_T50 t352 x9_2).f1)) ∧ w'.cell? ⟨gb363, 6, none⟩ = some (.bool ((rd_T50 t352 x9_2).f2)) ∧ w'.cell? ⟨gb363, 7, none⟩ = some (.int .i64 ((rd_T50 t352 x9_2).f3.f0)) ∧ w'.cell? ⟨gb363, 8, none⟩ = some (.int .i64 ((rd_T50 t352 x9_2).f3.f1)) ∧ w'.cell? ⟨gb363, 9, none⟩ = some (.int .i64 ((rd_T50 t352 x9_2).f3.f2)) ∧ w'.cell? ⟨gb363, 10, none⟩ = some (.int .i64 ((rd_T50 t352 x9_2).f3.f3)) ∧ w'.cell? ⟨gb363, 11, none⟩ = some (.int .i64 ((rd_T50 t352 x9_2).f3.f4)) ∧ w'.cell? ⟨gb351, 0, none⟩ = some (.int .i64 a2_0) ∧ w'.cell? ⟨gb351, 1, none⟩ = some (.int .i64 a2_1) ∧ w'.cell? ⟨gb351, 2, none⟩ = some (.int .i64 a2_2) ∧ w'.cell? ⟨gb351, 3, none⟩ = some (.int .i64 a2_3) ∧ w'.cell? ⟨gb351, 4, none⟩ = some (.int .i64 a2_4) ∧ w'.cell? ⟨gb351, 5, none⟩ = some (.int .i64 a2_5) ∧ w'.cell? ⟨gb351, 6, none⟩ = some (.int .i64 a2_6) ∧ w'.cell? ⟨gb351, 7, none⟩ = some (.string a2_7) ∧ w'.cell? ⟨gb351, 8, none⟩ = some (.int .i64 a2_8) ∧ w'.cell? ⟨gb361, 0, none⟩ = some (.string ((rd_T64 l0_1 x10_1).f0.f0)) ∧ w'.cell? ⟨gb361, 1, none⟩ = some (.int .i64 ((rd_T64 l0_1 x10_1).f0.f1)) ∧ w'.cell? ⟨gb361, 2, none⟩ = some (.int .i64 ((rd_T64 l0_1 x10_1).f0.f2)) ∧ w'.cell? ⟨gb361, 3, none⟩ = some (.int .i64 ((rd_T64 l0_1 x10_1).f0.f3)) ∧ w'.cell? ⟨gb361, 4, none⟩ = some (.int .i64 ((rd_T64 l0_1 x10_1).f0.f4)) ∧ w'.cell? ⟨gb361, 5, none⟩ = some (.int .i64 ((rd_T64 l0_1 x10_1).f1)) ∧ w'.cell? ⟨gb361, 6, none⟩ = some (.int .i64 ((rd_T64 l0_1 x10_1).f2)) ∧ w'.cell? ⟨gb361, 7, none⟩ = some (.bool ((rd_T64 l0_1 x10_1).f3)) ∧ w'.cell? ⟨gb361, 8, none⟩ = some (.string ((rd_T64 l0_1 x10_1).f4.f0)) ∧ w'.cell? ⟨gb361, 9, none⟩ = some (.int .i64 ((rd_T64 l0_1 x10_1).f4.f1)) ∧ w'.cell? ⟨gb361, 10, none⟩ = some (.int .i64 ((rd_T64 l0_1 x10_1).f4.f2)) ∧ w'.cell? ⟨gb361, 11, none⟩ = some (.int .i64 ((rd_T64 l0_1 x10_1).f4.f3)) ∧ w'.cell? ⟨gb361, 12, none⟩ = some (.int .i64 ((rd_T64 l0_1 x10_1).f4.f4)) ∧ w'.cell? ⟨gb350, 0, none⟩ = some (.slice A1_0 l1_0.length c1_0) ∧ w'.cell? ⟨gb350, 1, none⟩ = some (.slice A1_1 l1_1.length c1_1)) (ds := []) (bsq 0 10) (by kernel_rfl) rfl rfl ⟨(blk_cell BK363.out 0).trans rfl, (blk_cell BK363.out 1).trans rfl, (blk_cell BK363.out 2).trans rfl, (blk_cell BK363.out 3).trans rfl, (blk_cell BK363.out 4).trans rfl, (blk_cell BK363.out 5).trans rfl, (blk_cell BK363.out 6).trans rfl, (blk_cell BK363.out 7).trans rfl, (blk_cell BK363.out 8).trans rfl, (blk_cell BK363.out 9).trans rfl, (blk_cell BK363.out 10).trans rfl, (blk_cell BK363.out 11).trans rfl, (blk_cell BK351.out 0).trans rfl, (blk_cell BK351.out 1).trans rfl, (blk_cell BK351.out 2).trans rfl, (blk_cell BK351.out 3).trans rfl, (blk_cell BK351.out 4).trans rfl, (blk_cell BK351.out 5).trans rfl, (blk_cell BK351.out 6).trans rfl, (blk_cell BK351.out 7).trans rfl, (blk_cell BK351.out 8).trans rfl, (blk_cell BK361.out 0).trans rfl, (blk_cell BK361.out 1).trans rfl, (blk_cell BK361.out 2).trans rfl, (blk_cell BK361.out 3).trans rfl, (blk_cell BK361.out 4).trans rfl, (blk_cell BK361.out 5).trans rfl, (blk_cell BK361.out 6).trans rfl, (blk_cell BK361.out 7).trans rfl, (blk_cell BK361.out 8).trans rfl, (blk_cell BK361.out 9).trans rfl, (blk_cell BK361.out 10).trans rfl, (blk_cell BK361.out 11).trans rfl, (blk_cell BK361.out 12).trans rfl, (blk_cell BK350.out 0).trans rfl, (blk_cell BK350.out 1).trans rfl⟩ (fun hHeld => ?_); refine with_tabW signalbenchlaw44_TrigautoHolds.tab15 signalbenchlaw44_TrigautoHolds.bits15 (fun HT_ HW_ => ?_)
             generalize w86.drew = w87 at HO_357000 BK349 BK350 BK351 BK356 BK361 BK363 HB hHeld ⊢
             refine pure_ (i := 0) (N := some 57) (v := ?_) (a' := ?_) (bsq 1 9) rfl rfl (any_of HT_.out (by kernel_rfl)) (fun _ _ _ h => h) (Or.inl ⟨by rfl, ?_⟩) ?_ ?_
             rotate_left
             ·
              intro w'
              go_simp
              with_reducible rfl
             rotate_left
             ·
              simp only [Act.put, List.setIfInBounds_toArray, List.set_cons_zero, List.set_cons_succ, i64_w, i32_w]
              rfl
             refine pure_ (i := 4) (N := some 61) (v := ?_) (a' := ?_) #[true, false, false, false, true, false, false, false, false, false] rfl rfl (any_of HT_.out (by kernel_rfl)) (fun _ _ _ h => h) (Or.inl ⟨by rfl, ?_⟩) ?_ ?_
             rotate_left
             ·
              intro w'
              go_simp
              with_reducible rfl
             rotate_left
             ·
              simp only [Act.put, List.setIfInBounds_toArray, List.set_cons_zero, List.set_cons_succ, i64_w, i32_w]
              rfl
             refine take_ (i := 1) (N := some 58) (v := ?_) (a' := ?_) #[true, true, false, false, true, false, false, false, false, false] rfl rfl (take_ofW HT_.out HW_.out (by kernel_rfl)) (fun _ _ _ h => h) (Or.inl ⟨by rfl, ?_⟩) hHeld ?_ ?_
             rotate_left
             ·
              rintro w' ⟨s0, s1, s2, s3, s4, s5, s6, s7, s8, s9, s10, s11, s12, s13, s14, s15, s16, s17, s18, s19, s20, s21, s22, s23, s24, s25, s26, s27, s28, s29, s30, s31, s32, s33, s34, s35⟩
              go_simp
              with_reducible rfl
             rotate_left
             ·
              simp only [Act.put, List.setIfInBounds_toArray, List.set_cons_zero, List.set_cons_succ, i64_w, i32_w]
              rfl
             refine take_ (i := 2) (N := some 59) (v := ?_) (a' := ?_) #[true, true, true, false, true, false, false, false, false, false] rfl rfl (take_ofW HT_.out HW_.out (by kernel_rfl)) (fun _ _ _ h => h) (Or.inl ⟨by rfl, ?_⟩) hHeld ?_ ?_
             rotate_left
             ·
              rintro w' ⟨s0, s1, s2, s3, s4, s5, s6, s7, s8, s9, s10, s11, s12, s13, s14, s15, s16, s17, s18, s19, s20, s21, s22, s23, s24, s25, s26, s27, s28, s29, s30, s31, s32, s33, s34, s35⟩
              go_simp
              with_reducible rfl
             rotate_left
             ·
              simp only [Act.put, List.setIfInBounds_toArray, List.set_cons_zero, List.set_cons_succ, i64_w, i32_w]
              rfl
             refine take_ (i := 5) (N := some 62) (v := ?_) (a' := ?_) #[true, true, true, false, true, true, false, false, false, false] rfl rfl (take_ofW HT_.out HW_.out (by kernel_rfl)) (fun _ _ _ h => h) (Or.inl ⟨by rfl, ?_⟩) hHeld ?_ ?_
             rotate_left
             ·
              rintro w' ⟨s0, s1, s2, s3, s4, s5, s6, s7, s8, s9, s10, s11, s12, s13, s14, s15, s16, s17, s18, s19, s20, s21, s22, s23, s24, s25, s26, s27, s28, s29, s30, s31, s32, s33, s34, s35⟩
              go_simp
              with_reducible rfl
             rotate_left
             ·
              simp only [Act.put, List.setIfInBounds_toArray, List.set_cons_zero, List.set_cons_succ, i64_w, i32_w]
              rfl
             refine take_ (i := 6) (N := some 63) (v := ?_) (a' := ?_) #[true, true, true, false, true, true, true, false, false, false] rfl rfl (take_ofW HT_.out HW_.out (by kernel_rfl)) (fun _ _ _ h => h) (Or.inl ⟨by rfl, ?_⟩) hHeld ?_ ?_
             rotate_left
             ·
              rintro w' ⟨s0, s1, s2, s3, s4, s5, s6, s7, s8, s9, s10, s11, s12, s13, s14, s15, s16, s17, s18, s19, s20, s21, s22, s23, s24, s25, s26, s27, s28, s29, s30, s31, s32, s33, s34, s35⟩
              go_simp
              with_reducible rfl
             rotate_left
             ·
              simp only [Act.put, List.setIfInBounds_toArray, List.set_cons_zero, List.set_cons_succ, i64_w, i32_w]
              rfl
             refine take_ (i := 7) (N := some 64) (v := ?_) (a' := ?_) #[true, true, true, false, true, true, true, true, false, false] rfl rfl (take_ofW HT_.out HW_.out (by kernel_rfl)) (fun _ _ _ h => h) (Or.inl ⟨by rfl, ?_⟩) hHeld ?_ ?_
             rotate_left
             ·
              rintro w' ⟨s0, s1, s2, s3, s4, s5, s6, s7, s8, s9, s10, s11, s12, s13, s14, s15, s16, s17, s18, s19, s20, s21, s22, s23, s24, s25, s26, s27, s28, s29, s30, s31, s32, s33, s34, s35⟩
              go_simp
              with_reducible rfl
             rotate_left
             ·
              simp only [Act.put, List.setIfInBounds_toArray, List.set_cons_zero, List.set_cons_succ, i64_w, i32_w]
              rfl
             refine one_ (i := 3) (N := some 60) (bsq 8 2) rfl rfl (one_of HT_.out (by kernel_rfl)) (by decide) (fun K hK => ?_)
             refine goes_ Try.func23 (by kernel_rfl) rfl #[.agg #[.int .i64 ((rd_T50 t352 x9_2).f0.f0), .int .i64 ((rd_T50 t352 x9_2).f0.f1), .int .i64 ((rd_T50 t352 x9_2).f0.f2), .int .i64 ((rd_T50 t352 x9_2).f0.f3), .int .i64 ((rd_T50 t352 x9_2).f0.f4)], .agg #[.int .i64 a2_0, .int .i64 a2_1, .int .i64 a2_2, .int .i64 a2_3, .int .i64 a2_4, .int .i64 a2_5, .int .i64 a2_6, .string a2_7, .int .i64 a2_8]] (by rfl) rfl rfl (by (try simp only [List.map_toArray, List.map_cons, List.map_nil]); first | done | rfl | (simp only [List.length_drop, List.length_take]; rfl)) ?_
             with_reducible refine (trigauto_Holds.calls k2 ((rd_T50 t352 x9_2).f0.f0) ((rd_T50 t352 x9_2).f0.f1) ((rd_T50 t352 x9_2).f0.f2) ((rd_T50 t352 x9_2).f0.f3) ((rd_T50 t352 x9_2).f0.f4) a2_0 a2_1 a2_2 a2_3 a2_4 a2_5 a2_6 a2_7 a2_8 t364 _ A46.out).mono ?_
             rintro e w88 ⟨rfl, hb⟩
             refine ⟨_, rfl, ?_⟩
             have n0_ := Aside0.mk (Kd.R_below (by (with_reducible repeat (first | apply Kd.R_alloc | apply Kd.R_drewN | apply Kd.R_drew)); exact HO_357000.out) hb)
             have n1_ := Aside0.mk (blk_below (bg BK349.out) hb)
             have n2_ := Aside0.mk (blk_below (bg BK350.out) hb)
             have n3_ := Aside0.mk (blk_below (bg BK351.out) hb)
             have n4_ := Aside0.mk (blk_below (bg BK356.out) hb)
             have n5_ := Aside0.mk (blk_below (bg BK361.out) hb)
             have n6_ := Aside0.mk (blk_below (bg BK363.out) hb)
             have n7_ := Aside0.mk (below_step (bs HB.out) hb)
             clear HO_357000
             clear BK349
             clear BK350
             clear BK351
             clear BK356
             clear BK361
             clear BK363
             clear HB
             have HO_357000 := n0_
             have BK349 := n1_
             have BK350 := n2_
             have BK351 := n3_
             have BK356 := n4_
             have BK361 := n5_
             have BK363 := n6_
             have HB := n7_
             clear n0_ n1_ n2_ n3_ n4_ n5_ n6_ n7_
             (try clear hb)
             (try clear hb2)
             (try clear hk)
             (try clear hi)
             refine hK.out _ _ ⟨(blk_cell BK363.out 0).trans rfl, (blk_cell BK363.out 1).trans rfl, (blk_cell BK363.out 2).trans rfl, (blk_cell BK363.out 3).trans rfl, (blk_cell BK363.out 4).trans rfl, (blk_cell BK363.out 5).trans rfl, (blk_cell BK363.out 6).trans rfl, (blk_cell BK363.out 7).trans rfl, (blk_cell BK363.out 8).trans rfl, (blk_cell BK363.out 9).trans rfl, (blk_cell BK363.out 10).trans rfl, (blk_cell BK363.out 11).trans rfl, (blk_cell BK351.out 0).trans rfl, (blk_cell BK351.out 1).trans rfl, (blk_cell BK351.out 2).trans rfl, (blk_cell BK351.out 3).trans rfl, (blk_cell BK351.out 4).trans rfl, (blk_cell BK351.out 5).trans rfl, (blk_cell BK351.out 6).trans rfl, (blk_cell BK351.out 7).trans rfl, (blk_cell BK351.out 8).trans rfl, (blk_cell BK361.out 0).trans rfl, (blk_cell BK361.out 1).trans rfl, (blk_cell BK361.out 2).trans rfl, (blk_cell BK361.out 3).trans rfl, (blk_cell BK361.out 4).trans rfl, (blk_cell BK361.out 5).trans rfl, (blk_cell BK361.out 6).trans rfl, (blk_cell BK361.out 7).trans rfl, (blk_cell BK361.out 8).trans rfl, (blk_cell BK361.out 9).trans rfl, (blk_cell BK361.out 10).trans rfl, (blk_cell BK361.out 11).trans rfl, (blk_cell BK361.out 12).trans rfl, (blk_cell BK350.out 0).trans rfl, (blk_cell BK350.out 1).trans rfl⟩ (fun hHeld => ?_)
             clear hK K
             refine norm_ (a' := ?_) ?_ ?_
             rotate_left
             ·
              show Act.put _ (some 60) _ = _
              simp only [Act.put, List.setIfInBounds_toArray, List.set_cons_zero, List.set_cons_succ, i64_w, i32_w]
              rfl
             refine one_ (i := 8) (N := some 65) (bsq 9 1) rfl rfl (one_of HT_.out (by kernel_rfl)) (by decide) (fun K hK => ?_)
             refine goes_ Try.func37 (by kernel_rfl) rfl #[.agg #[.string ((rd_T64 l0_1 x10_1).f0.f0), .int .i64 ((rd_T64 l0_1 x10_1).f0.f1), .int .i64 ((rd_T64 l0_1 x10_1).f0.f2), .int .i64 ((rd_T64 l0_1 x10_1).f0.f3), .int .i64 ((rd_T64 l0_1 x10_1).f0.f4)], .agg #[.slice A1_0 l1_0.length c1_0, .slice A1_1 l1_1.length c1_1], .agg #[.int .i64 a2_0, .int .i64 a2_1, .int .i64 a2_2, .int .i64 a2_3, .int .i64 a2_4, .int .i64 a2_5, .int .i64 a2_6, .string a2_7, .int .i64 a2_8]] (by rfl) rfl rfl (by (try simp only [List.map_toArray, List.map_cons, List.map_nil]); first | done | rfl | (simp only [List.length_drop, List.length_take]; rfl)) ?_
             with_reducible refine (trig_Holds.calls k2 ((rd_T64 l0_1 x10_1).f0.f0) ((rd_T64 l0_1 x10_1).f0.f1) ((rd_T64 l0_1 x10_1).f0.f2) ((rd_T64 l0_1 x10_1).f0.f3) ((rd_T64 l0_1 x10_1).f0.f4) _ _ l1_0 _ _ l1_1 a2_0 a2_1 a2_2 a2_3 a2_4 a2_5 a2_6 a2_7 a2_8 t365 _ ?side1 ?side2 ?side3 ?side4 A47.out).mono ?_
             (case side1 => repeat (first | exact (Kd.C_below HR1_0.out HB.out) | (with_reducible refine Kd.C_alloc ?_ _) | (with_reducible refine Kd.C_drewN ?_ _) | (with_reducible refine Kd.C_drew ?_)))
             (case side2 => exact HC1_0.out)
             (case side3 => repeat (first | exact (Kd.C_below HR1_1.out HB.out) | (with_reducible refine Kd.C_alloc ?_ _) | (with_reducible refine Kd.C_drewN ?_ _) | (with_reducible refine Kd.C_drew ?_)))
             (case side4 => exact HC1_1.out)
             rintro e w89 ⟨rfl, hb⟩
             refine ⟨_, rfl, ?_⟩
             have n0_ := Aside0.mk (Kd.R_below (by (with_reducible repeat (first | apply Kd.R_alloc | apply Kd.R_drewN | apply Kd.R_drew)); exact HO_357000.out) hb)
             have n1_ := Aside0.mk (blk_below (bg BK349.out) hb)
             have n2_ := Aside0.mk (blk_below (bg BK350.out) hb)
             have n3_ := Aside0.mk (blk_below (bg BK351.out) hb)
             have n4_ := Aside0.mk (blk_below (bg BK356.out) hb)
             have n5_ := Aside0.mk (blk_below (bg BK361.out) hb)
             have n6_ := Aside0.mk (blk_below (bg BK363.out) hb)
             have n7_ := Aside0.mk (below_step (bs HB.out) hb)
             clear HO_357000
             clear BK349
             clear BK350
             clear BK351
             clear BK356
             clear BK361
             clear BK363
             clear HB
             have HO_357000 := n0_
             have BK349 := n1_
             have BK350 := n2_
             have BK351 := n3_
             have BK356 := n4_
             have BK361 := n5_
             have BK363 := n6_
             have HB := n7_
             clear n0_ n1_ n2_ n3_ n4_ n5_ n6_ n7_
             (try clear hb)
             (try clear hb2)
             (try clear hk)
             (try clear hi)
             refine hK.out _ _ ⟨(blk_cell BK363.out 0).trans rfl, (blk_cell BK363.out 1).trans rfl, (blk_cell BK363.out 2).trans rfl, (blk_cell BK363.out 3).trans rfl, (blk_cell BK363.out 4).trans rfl, (blk_cell BK363.out 5).trans rfl, (blk_cell BK363.out 6).trans rfl, (blk_cell BK363.out 7).trans rfl, (blk_cell BK363.out 8).trans rfl, (blk_cell BK363.out 9).trans rfl, (blk_cell BK363.out 10).trans rfl, (blk_cell BK363.out 11).trans rfl, (blk_cell BK351.out 0).trans rfl, (blk_cell BK351.out 1).trans rfl, (blk_cell BK351.out 2).trans rfl, (blk_cell BK351.out 3).trans rfl, (blk_cell BK351.out 4).trans rfl, (blk_cell BK351.out 5).trans rfl, (blk_cell BK351.out 6).trans rfl, (blk_cell BK351.out 7).trans rfl, (blk_cell BK351.out 8).trans rfl, (blk_cell BK361.out 0).trans rfl, (blk_cell BK361.out 1).trans rfl, (blk_cell BK361.out 2).trans rfl, (blk_cell BK361.out 3).trans rfl, (blk_cell BK361.out 4).trans rfl, (blk_cell BK361.out 5).trans rfl, (blk_cell BK361.out 6).trans rfl, (blk_cell BK361.out 7).trans rfl, (blk_cell BK361.out 8).trans rfl, (blk_cell BK361.out 9).trans rfl, (blk_cell BK361.out 10).trans rfl, (blk_cell BK361.out 11).trans rfl, (blk_cell BK361.out 12).trans rfl, (blk_cell BK350.out 0).trans rfl, (blk_cell BK350.out 1).trans rfl⟩ (fun hHeld => ?_)
             clear hK K
             refine norm_ (a' := ?_) ?_ ?_
             rotate_left
             ·
              show Act.put _ (some 65) _ = _
              simp only [Act.put, List.setIfInBounds_toArray, List.set_cons_zero, List.set_cons_succ, i64_w, i32_w]
              rfl
             refine pure_ (i := 9) (N := some 66) (v := ?_) (a' := ?_) (bsq 10 0) rfl rfl (any_of HT_.out (by kernel_rfl)) (fun _ _ _ h => h) (Or.inl ⟨by rfl, ?_⟩) ?_ ?_
             rotate_left
             ·
              intro w'
              go_simp
              with_reducible rfl
             rotate_left
             ·
              simp only [Act.put, List.setIfInBounds_toArray, List.set_cons_zero, List.set_cons_succ, i64_w, i32_w]
              rfl
             refine done_ (done_of HT_.out (by kernel_rfl)) ?_
             go_upto_region 17 with (fail)
             go_cut [82] (fun v82 wc => ∃ (kq : Nat) (x82_68 : Bool), v82 = .bool x82_68 ∧ Aside0 (signalbenchlaw44_TrigautoHolds.j2 kq x9_2 x10_1 x12_2 x82_68 a0_0 l0_1 l1_0 l1_1 a2_0 a2_1 a2_2 a2_3 a2_4 a2_5 a2_6 a2_7 a2_8 t352 ((rd_T64 l0_1 x10_1).f0.f0) ((rd_T64 l0_1 x10_1).f0.f1) ((rd_T64 l0_1 x10_1).f0.f2) ((rd_T64 l0_1 x10_1).f0.f3) ((rd_T64 l0_1 x10_1).f0.f4) ((rd_T64 l0_1 x10_1).f1) ((rd_T64 l0_1 x10_1).f2) ((rd_T64 l0_1 x10_1).f3) ((rd_T64 l0_1 x10_1).f4.f0) ((rd_T64 l0_1 x10_1).f4.f1) ((rd_T64 l0_1 x10_1).f4.f2) ((rd_T64 l0_1 x10_1).f4.f3) ((rd_T64 l0_1 x10_1).f4.f4) ((rd_T50 t352 x9_2).f0.f0) ((rd_T50 t352 x9_2).f0.f1) ((rd_T50 t352 x9_2).f0.f2) ((rd_T50 t352 x9_2).f0.f3) ((rd_T50 t352 x9_2).f0.f4) ((rd_T50 t352 x9_2).f1) ((rd_T50 t352 x9_2).f2) ((rd_T50 t352 x9_2).f3.f0) ((rd_T50 t352 x9_2).f3.f1) ((rd_T50 t352 x9_2).f3.f2) ((rd_T50 t352 x9_2).f3.f3) ((rd_T50 t352 x9_2).f3.f4) = some r) ∧ Aside0 (kq ≤ k2) ∧ Aside0 (Kd.R k50 50 wc w.heap.size (fun k_ => k_ ≠ gb363) (.slice (some ad362) t352.length co16) t352) ∧ Aside0 (wc.heap[gb349]? = some (.cells #[.string a0_0, (.slice (some ad360) l0_1.length c0_1)] 24 (0, 0))) ∧ Aside0 (wc.heap[gb350]? = some (.cells #[(.slice A1_0 l1_0.length c1_0), (.slice A1_1 l1_1.length c1_1)] 28 (0, 0))) ∧ Aside0 (wc.heap[gb351]? = some (.cells #[.int .i64 a2_0, .int .i64 a2_1, .int .i64 a2_2, .int .i64 a2_3, .int .i64 a2_4, .int .i64 a2_5, .int .i64 a2_6, .string a2_7, .int .i64 a2_8] 46 (0, 0))) ∧ Aside0 (wc.heap[gb356]? = some (.cells #[(.slice (some ad362) t352.length co16)] 31 (0, 0))) ∧ Aside0 (wc.heap[gb361]? = some (.cells #[.string ((rd_T64 l0_1 x10_1).f0.f0), .int .i64 ((rd_T64 l0_1 x10_1).f0.f1), .int .i64 ((rd_T64 l0_1 x10_1).f0.f2), .int .i64 ((rd_T64 l0_1 x10_1).f0.f3), .int .i64 ((rd_T64 l0_1 x10_1).f0.f4), .int .i64 ((rd_T64 l0_1 x10_1).f1), .int .i64 ((rd_T64 l0_1 x10_1).f2), .bool ((rd_T64 l0_1 x10_1).f3), .string ((rd_T64 l0_1 x10_1).f4.f0), .int .i64 ((rd_T64 l0_1 x10_1).f4.f1), .int .i64 ((rd_T64 l0_1 x10_1).f4.f2), .int .i64 ((rd_T64 l0_1 x10_1).f4.f3), .int .i64 ((rd_T64 l0_1 x10_1).f4.f4)] 64 (0, 0))) ∧ Aside0 (wc.heap[gb363]? = some (.cells #[.int .i64 ((rd_T50 t352 x9_2).f0.f0), .int .i64 ((rd_T50 t352 x9_2).f0.f1), .int .i64 ((rd_T50 t352 x9_2).f0.f2), .int .i64 ((rd_T50 t352 x9_2).f0.f3), .int .i64 ((rd_T50 t352 x9_2).f0.f4), .int .i64 ((rd_T50 t352 x9_2).f1), .bool ((rd_T50 t352 x9_2).f2), .int .i64 ((rd_T50 t352 x9_2).f3.f0), .int .i64 ((rd_T50 t352 x9_2).f3.f1), .int .i64 ((rd_T50 t352 x9_2).f3.f2), .int .i64 ((rd_T50 t352 x9_2).f3.f3), .int .i64 ((rd_T50 t352 x9_2).f3.f4)] 50 (0, 0))) ∧ Aside0 (Below w.heap.size w wc))
             case first =>
              have H := HC69.out
              clear HC69
              by_cases c90 : x9_2 > 0
              ·
               rw [if_pos c90] at H
               have c90b0 : decide (0 < x9_2) = true := decide_eq_true c90
               clear c90
               (first | rw [c90b0] | (simp only [i64_w, i32_w]; rw [c90b0]) | skip)
               by_cases c91 : ((rd_T50 t352 x9_2).f1) = ((rd_T64 l0_1 x10_1).f2)
               ·
                rw [if_pos c91] at H
                have c91b0 : (((rd_T50 t352 x9_2).f1) == ((rd_T64 l0_1 x10_1).f2)) = true := beq_iff_eq.mpr c91
                have c91b1 : (((rd_T50 t352 x9_2).f1) != ((rd_T64 l0_1 x10_1).f2)) = false := bne_eq_false_iff_eq.mpr c91
                clear c91
                have H' := Aside0.mk H
                clear H
                have hnb92 := NB363_349.out
                have hnc92 := NB349_363.out
                have hnb93 := NB363_350.out
                have hnc93 := NB350_363.out
                have hnb94 := NB363_351.out
                have hnc94 := NB351_363.out
                have hnb95 := NB363_356.out
                have hnc95 := NB356_363.out
                have hnb96 := NB363_361.out
                have hnc96 := NB361_363.out
                obtain ⟨hcz97_0, hcz97_1, hcz97_2, hcz97_3, hcz97_4, hcz97_5, hcz97_6, hcz97_7, hcz97_8, hcz97_9, hcz97_10, hcz97_11⟩ := bc12 BK363.out
                obtain ⟨hfz97_0, hfz97_1, hfz97_2, hfz97_3, hfz97_4, hfz97_5, hfz97_6, hfz97_7, hfz97_8, hfz97_9, hfz97_10, hfz97_11⟩ := bf12 BK363.out
                have hnb98 := NB361_349.out
                have hnc98 := NB349_361.out
                have hnb99 := NB361_350.out
                have hnc99 := NB350_361.out
                have hnb100 := NB361_351.out
                have hnc100 := NB351_361.out
                have hnb101 := NB361_356.out
                have hnc101 := NB356_361.out
                obtain ⟨hcz102_0, hcz102_1, hcz102_2, hcz102_3, hcz102_4, hcz102_5, hcz102_6, hcz102_7, hcz102_8, hcz102_9, hcz102_10, hcz102_11, hcz102_12⟩ := bc13 BK361.out
                obtain ⟨hfz102_0, hfz102_1, hfz102_2, hfz102_3, hfz102_4, hfz102_5, hfz102_6, hfz102_7, hfz102_8, hfz102_9, hfz102_10, hfz102_11, hfz102_12⟩ := bf13 BK361.out
                go_wp2
                go_meet
                case rel => exact ⟨_, ((((rd_T50 t352 x9_2).f2) != ((rd_T64 l0_1 x10_1).f3))), (by first | rfl | (simp; done) | (simp [*]; done)), H', ⟨by have := HK1.out; have := HK2.out; first | omega | exact Nat.le_refl _⟩, ⟨by (with_reducible repeat (first | apply Kd.R_alloc | apply Kd.R_drewN | apply Kd.R_drew)); exact HO_357000.out⟩, ⟨bg BK349.out⟩, ⟨bg BK350.out⟩, ⟨bg BK351.out⟩, ⟨bg BK356.out⟩, ⟨bg BK361.out⟩, ⟨bg BK363.out⟩, ⟨bs HB.out⟩⟩
               ·
                rw [if_neg c91] at H
                have c91b0 : (((rd_T50 t352 x9_2).f1) == ((rd_T64 l0_1 x10_1).f2)) = false := beq_eq_false_iff_ne.mpr c91
                have c91b1 : (((rd_T50 t352 x9_2).f1) != ((rd_T64 l0_1 x10_1).f2)) = true := bne_iff_ne.mpr c91
                have H' := Aside0.mk H
                clear H
                have hnb103 := NB363_349.out
                have hnc103 := NB349_363.out
                have hnb104 := NB363_350.out
                have hnc104 := NB350_363.out
                have hnb105 := NB363_351.out
                have hnc105 := NB351_363.out
                have hnb106 := NB363_356.out
                have hnc106 := NB356_363.out
                have hnb107 := NB363_361.out
                have hnc107 := NB361_363.out
                obtain ⟨hcz108_0, hcz108_1, hcz108_2, hcz108_3, hcz108_4, hcz108_5, hcz108_6, hcz108_7, hcz108_8, hcz108_9, hcz108_10, hcz108_11⟩ := bc12 BK363.out
                obtain ⟨hfz108_0, hfz108_1, hfz108_2, hfz108_3, hfz108_4, hfz108_5, hfz108_6, hfz108_7, hfz108_8, hfz108_9, hfz108_10, hfz108_11⟩ := bf12 BK363.out
                have hnb109 := NB361_349.out
                have hnc109 := NB349_361.out
                have hnb110 := NB361_350.out
                have hnc110 := NB350_361.out
                have hnb111 := NB361_351.out
                have hnc111 := NB351_361.out
                have hnb112 := NB361_356.out
                have hnc112 := NB356_361.out
                obtain ⟨hcz113_0, hcz113_1, hcz113_2, hcz113_3, hcz113_4, hcz113_5, hcz113_6, hcz113_7, hcz113_8, hcz113_9, hcz113_10, hcz113_11, hcz113_12⟩ := bc13 BK361.out
                obtain ⟨hfz113_0, hfz113_1, hfz113_2, hfz113_3, hfz113_4, hfz113_5, hfz113_6, hfz113_7, hfz113_8, hfz113_9, hfz113_10, hfz113_11, hfz113_12⟩ := bf13 BK361.out
                go_wp2
                go_meet
                case rel => exact ⟨_, (true), (by first | rfl | (simp; done) | (simp [*]; done)), H', ⟨by have := HK1.out; have := HK2.out; first | omega | exact Nat.le_refl _⟩, ⟨by (with_reducible repeat (first | apply Kd.R_alloc | apply Kd.R_drewN | apply Kd.R_drew)); exact HO_357000.out⟩, ⟨bg BK349.out⟩, ⟨bg BK350.out⟩, ⟨bg BK351.out⟩, ⟨bg BK356.out⟩, ⟨bg BK361.out⟩, ⟨bg BK363.out⟩, ⟨bs HB.out⟩⟩
              ·
               rw [if_neg c90] at H
               have c90b0 : decide (0 < x9_2) = false := decide_eq_false c90
               clear c90
               (first | rw [c90b0] | (simp only [i64_w, i32_w]; rw [c90b0]) | skip)
               have H' := Aside0.mk H
               clear H
               go_wp2
               go_meet
               case rel => exact ⟨_, (false), (by first | rfl | (simp; done) | (simp [*]; done)), H', ⟨by have := HK1.out; have := HK2.out; first | omega | exact Nat.le_refl _⟩, ⟨by (with_reducible repeat (first | apply Kd.R_alloc | apply Kd.R_drewN | apply Kd.R_drew)); exact HO_357000.out⟩, ⟨bg BK349.out⟩, ⟨bg BK350.out⟩, ⟨bg BK351.out⟩, ⟨bg BK356.out⟩, ⟨bg BK361.out⟩, ⟨bg BK363.out⟩, ⟨bs HB.out⟩⟩
             case rest =>
              clear HC69
              try clear c1
              try clear c2
              try clear p2
              try clear c3
              try clear p3
              try clear q3
              try clear hx3
              try clear c4
              try clear c7
              try clear c8
              try clear c9
              try clear c10
              try clear c11
              try clear c23
              try clear p36
              try clear q36
              try clear hx36
              try clear c37
              try clear c48
              try clear c48b0
              try clear c48b1
              try clear c48b2
              try clear c70
              try clear c71
              try clear c72
              try clear c73
              try clear c75
              try clear c76
              try clear c77
              try clear c80
              try clear c81
              try clear c82
              try clear c83
              try clear c84
              try clear c90
              try clear c90b0
              try clear c91
              try clear c91b0
              try clear c91b1
              try clear c92
              try clear c93
              try clear c94
              try clear c95
              try clear c96
              try clear c98
              try clear c99
              try clear c100
              try clear c101
              try clear c103
              try clear c104
              try clear c105
              try clear c106
              try clear c107
              try clear c109
              try clear c110
              try clear c111
              try clear c112
              try clear hcz102_0 hcz102_1 hcz102_10 hcz102_11 hcz102_12 hcz102_2 hcz102_3 hcz102_4 hcz102_5 hcz102_6 hcz102_7 hcz102_8 hcz102_9
              try clear hcz108_0 hcz108_1 hcz108_10 hcz108_11 hcz108_2 hcz108_3 hcz108_4 hcz108_5 hcz108_6 hcz108_7 hcz108_8 hcz108_9
              try clear hcz113_0 hcz113_1 hcz113_10 hcz113_11 hcz113_12 hcz113_2 hcz113_3 hcz113_4 hcz113_5 hcz113_6 hcz113_7 hcz113_8 hcz113_9
              try clear hcz74_0 hcz74_1 hcz74_10 hcz74_11 hcz74_12 hcz74_2 hcz74_3 hcz74_4 hcz74_5 hcz74_6 hcz74_7 hcz74_8 hcz74_9
              try clear hcz78_0
              try clear hcz85_0 hcz85_1 hcz85_10 hcz85_11 hcz85_2 hcz85_3 hcz85_4 hcz85_5 hcz85_6 hcz85_7 hcz85_8 hcz85_9
              try clear hcz97_0 hcz97_1 hcz97_10 hcz97_11 hcz97_2 hcz97_3 hcz97_4 hcz97_5 hcz97_6 hcz97_7 hcz97_8 hcz97_9
              try clear hfz102_0 hfz102_1 hfz102_10 hfz102_11 hfz102_12 hfz102_2 hfz102_3 hfz102_4 hfz102_5 hfz102_6 hfz102_7 hfz102_8 hfz102_9
              try clear hfz108_0 hfz108_1 hfz108_10 hfz108_11 hfz108_2 hfz108_3 hfz108_4 hfz108_5 hfz108_6 hfz108_7 hfz108_8 hfz108_9
              try clear hfz113_0 hfz113_1 hfz113_10 hfz113_11 hfz113_12 hfz113_2 hfz113_3 hfz113_4 hfz113_5 hfz113_6 hfz113_7 hfz113_8 hfz113_9
              try clear hfz74_0 hfz74_1 hfz74_10 hfz74_11 hfz74_12 hfz74_2 hfz74_3 hfz74_4 hfz74_5 hfz74_6 hfz74_7 hfz74_8 hfz74_9
              try clear hfz78_0
              try clear hfz85_0 hfz85_1 hfz85_10 hfz85_11 hfz85_2 hfz85_3 hfz85_4 hfz85_5 hfz85_6 hfz85_7 hfz85_8 hfz85_9
              try clear hfz97_0 hfz97_1 hfz97_10 hfz97_11 hfz97_2 hfz97_3 hfz97_4 hfz97_5 hfz97_6 hfz97_7 hfz97_8 hfz97_9
              try clear hx362_0
              try clear hx362_1
              try clear hx362_10
              try clear hx362_11
              try clear hx362_2
              try clear hx362_3
              try clear hx362_4
              try clear hx362_5
              try clear hx362_6
              try clear hx362_7
              try clear hx362_8
              try clear hx362_9
              try clear p362
              try clear q362
              obtain ⟨kq, x82_68, rfl, HA, HJ68, HO_357000, BK349, BK350, BK351, BK356, BK361, BK363, HB⟩ := hcut
              cases kq with
              | zero => exact absurd HA.out (by simp [signalbenchlaw44_TrigautoHolds.j2])
              | succ kj68 =>
               have H := HA.out
               clear HA
               simp only [signalbenchlaw44_TrigautoHolds.j2] at H
               by_cases c114 : x82_68 = true
               ·
                subst c114
                have H1 : (some false) = some r := by rw [if_pos rfl] at H; exact H
                clear H
                have H := H1
                clear H1
                obtain rfl := Option.some.inj H
                go_wp2
                go_ret
                exact ⟨by first | rfl | (simp [errW_none, errW_some] <;> rfl) | (simp [*, errW_none, errW_some] <;> rfl), bs HB.out⟩
               ·
                replace c114 := Bool.eq_false_iff.mpr c114
                subst c114
                have H1 : (if x9_2 > 0 then (if ((rd_T64 l0_1 x10_1).f3) = true then ((trigauto_Holds.f kj68 ((rd_T50 t352 x9_2).f3.f0) ((rd_T50 t352 x9_2).f3.f1) ((rd_T50 t352 x9_2).f3.f2) ((rd_T50 t352 x9_2).f3.f3) ((rd_T50 t352 x9_2).f3.f4) a2_0 a2_1 a2_2 a2_3 a2_4 a2_5 a2_6 a2_7 a2_8).bind fun t366 => ((trig_Holds.f kj68 ((rd_T64 l0_1 x10_1).f4.f0) ((rd_T64 l0_1 x10_1).f4.f1) ((rd_T64 l0_1 x10_1).f4.f2) ((rd_T64 l0_1 x10_1).f4.f3) ((rd_T64 l0_1 x10_1).f4.f4) l1_0 l1_1 a2_0 a2_1 a2_2 a2_3 a2_4 a2_5 a2_6 a2_7 a2_8).bind fun t367 => (if (t366 != t367) = true then (some false) else (signalbenchlaw44_TrigautoHolds.l1 kj68 (wrap64 (x9_2 + 1)) x10_1 (wrap64 (x12_2 + 1)) a0_0 l0_1 l1_0 l1_1 a2_0 a2_1 a2_2 a2_3 a2_4 a2_5 a2_6 a2_7 a2_8 t352 ((rd_T64 l0_1 x10_1).f0.f0) ((rd_T64 l0_1 x10_1).f0.f1) ((rd_T64 l0_1 x10_1).f0.f2) ((rd_T64 l0_1 x10_1).f0.f3) ((rd_T64 l0_1 x10_1).f0.f4) ((rd_T64 l0_1 x10_1).f1) ((rd_T64 l0_1 x10_1).f2) ((rd_T64 l0_1 x10_1).f3) ((rd_T64 l0_1 x10_1).f4.f0) ((rd_T64 l0_1 x10_1).f4.f1) ((rd_T64 l0_1 x10_1).f4.f2) ((rd_T64 l0_1 x10_1).f4.f3) ((rd_T64 l0_1 x10_1).f4.f4))))) else (signalbenchlaw44_TrigautoHolds.l1 kj68 (wrap64 (x9_2 + 1)) x10_1 (wrap64 (x12_2 + 1)) a0_0 l0_1 l1_0 l1_1 a2_0 a2_1 a2_2 a2_3 a2_4 a2_5 a2_6 a2_7 a2_8 t352 ((rd_T64 l0_1 x10_1).f0.f0) ((rd_T64 l0_1 x10_1).f0.f1) ((rd_T64 l0_1 x10_1).f0.f2) ((rd_T64 l0_1 x10_1).f0.f3) ((rd_T64 l0_1 x10_1).f0.f4) ((rd_T64 l0_1 x10_1).f1) ((rd_T64 l0_1 x10_1).f2) ((rd_T64 l0_1 x10_1).f3) ((rd_T64 l0_1 x10_1).f4.f0) ((rd_T64 l0_1 x10_1).f4.f1) ((rd_T64 l0_1 x10_1).f4.f2) ((rd_T64 l0_1 x10_1).f4.f3) ((rd_T64 l0_1 x10_1).f4.f4))) else (signalbenchlaw44_TrigautoHolds.l1 kj68 (wrap64 (x9_2 + 1)) x10_1 (wrap64 (x12_2 + 1)) a0_0 l0_1 l1_0 l1_1 a2_0 a2_1 a2_2 a2_3 a2_4 a2_5 a2_6 a2_7 a2_8 t352 ((rd_T64 l0_1 x10_1).f0.f0) ((rd_T64 l0_1 x10_1).f0.f1) ((rd_T64 l0_1 x10_1).f0.f2) ((rd_T64 l0_1 x10_1).f0.f3) ((rd_T64 l0_1 x10_1).f0.f4) ((rd_T64 l0_1 x10_1).f1) ((rd_T64 l0_1 x10_1).f2) ((rd_T64 l0_1 x10_1).f3) ((rd_T64 l0_1 x10_1).f4.f0) ((rd_T64 l0_1 x10_1).f4.f1) ((rd_T64 l0_1 x10_1).f4.f2) ((rd_T64 l0_1 x10_1).f4.f3) ((rd_T64 l0_1 x10_1).f4.f4))) = some r := by rw [if_neg (show ¬ (false = true) by decide)] at H; exact H
                clear H
                have H := H1
                clear H1
                by_cases c115 : x9_2 > 0
                ·
                 rw [if_pos c115] at H
                 have c115b0 : decide (0 < x9_2) = true := decide_eq_true c115
                 clear c115
                 by_cases c116 : ((rd_T64 l0_1 x10_1).f3) = true
                 ·
                  rw [if_pos c116] at H
                  have c116b0 : ((rd_T64 l0_1 x10_1).f3) = true := c116
                  clear c116
                  replace H := Option.bind_eq_some_iff.mp H
                  obtain ⟨t366, A1170, H⟩ := H
                  replace H : ((trig_Holds.f kj68 ((rd_T64 l0_1 x10_1).f4.f0) ((rd_T64 l0_1 x10_1).f4.f1) ((rd_T64 l0_1 x10_1).f4.f2) ((rd_T64 l0_1 x10_1).f4.f3) ((rd_T64 l0_1 x10_1).f4.f4) l1_0 l1_1 a2_0 a2_1 a2_2 a2_3 a2_4 a2_5 a2_6 a2_7 a2_8).bind fun t367 => (if (t366 != t367) = true then (some false) else (signalbenchlaw44_TrigautoHolds.l1 kj68 (wrap64 (x9_2 + 1)) x10_1 (wrap64 (x12_2 + 1)) a0_0 l0_1 l1_0 l1_1 a2_0 a2_1 a2_2 a2_3 a2_4 a2_5 a2_6 a2_7 a2_8 t352 ((rd_T64 l0_1 x10_1).f0.f0) ((rd_T64 l0_1 x10_1).f0.f1) ((rd_T64 l0_1 x10_1).f0.f2) ((rd_T64 l0_1 x10_1).f0.f3) ((rd_T64 l0_1 x10_1).f0.f4) ((rd_T64 l0_1 x10_1).f1) ((rd_T64 l0_1 x10_1).f2) ((rd_T64 l0_1 x10_1).f3) ((rd_T64 l0_1 x10_1).f4.f0) ((rd_T64 l0_1 x10_1).f4.f1) ((rd_T64 l0_1 x10_1).f4.f2) ((rd_T64 l0_1 x10_1).f4.f3) ((rd_T64 l0_1 x10_1).f4.f4)))) = some r := H
                  have A117 := Aside0.mk A1170
                  clear A1170
                  replace H := Option.bind_eq_some_iff.mp H
                  obtain ⟨t367, A1180, H⟩ := H
                  replace H : (if (t366 != t367) = true then (some false) else (signalbenchlaw44_TrigautoHolds.l1 kj68 (wrap64 (x9_2 + 1)) x10_1 (wrap64 (x12_2 + 1)) a0_0 l0_1 l1_0 l1_1 a2_0 a2_1 a2_2 a2_3 a2_4 a2_5 a2_6 a2_7 a2_8 t352 ((rd_T64 l0_1 x10_1).f0.f0) ((rd_T64 l0_1 x10_1).f0.f1) ((rd_T64 l0_1 x10_1).f0.f2) ((rd_T64 l0_1 x10_1).f0.f3) ((rd_T64 l0_1 x10_1).f0.f4) ((rd_T64 l0_1 x10_1).f1) ((rd_T64 l0_1 x10_1).f2) ((rd_T64 l0_1 x10_1).f3) ((rd_T64 l0_1 x10_1).f4.f0) ((rd_T64 l0_1 x10_1).f4.f1) ((rd_T64 l0_1 x10_1).f4.f2) ((rd_T64 l0_1 x10_1).f4.f3) ((rd_T64 l0_1 x10_1).f4.f4))) = some r := H
                  have A118 := Aside0.mk A1180
                  clear A1180
                  by_cases c119 : (t366 != t367) = true
                  ·
                   rw [if_pos c119] at H
                   have c119b0 : (t366 != t367) = true := c119
                   (try (have c119b1 : decide (t366 = t367) = false := by simpa using c119))
                   (try (have c119b2 : (t366 == t367) = false := by simpa using c119))
                   (try (have c119b3 : ¬ (t366 = t367) := by simpa using c119))
                   clear c119
                   obtain rfl := Option.some.inj H
                   try go_wp2
                   have n0_ := Aside0.mk (Kd.R_drew HO_357000.out)
                   have n1_ := Aside0.mk (blk_drew BK349.out)
                   have n2_ := Aside0.mk (blk_drew BK350.out)
                   have n3_ := Aside0.mk (blk_drew BK351.out)
                   have n4_ := Aside0.mk (blk_drew BK356.out)
                   have n5_ := Aside0.mk (blk_drew BK361.out)
                   have n6_ := Aside0.mk (blk_drew BK363.out)
                   have n7_ := Aside0.mk (below_drew1 HB.out)
                   clear HO_357000
                   clear BK349
                   clear BK350
                   clear BK351
                   clear BK356
                   clear BK361
                   clear BK363
                   clear HB
                   have HO_357000 := n0_
                   have BK349 := n1_
                   have BK350 := n2_
                   have BK351 := n3_
                   have BK356 := n4_
                   have BK361 := n5_
                   have BK363 := n6_
                   have HB := n7_
                   clear n0_ n1_ n2_ n3_ n4_ n5_ n6_ n7_
                   refine start_ (n := 18) (S := fun w' => w'.cell? ⟨gb361, 0, none⟩ = some (.string ((rd_T64 l0_1 x10_1).f0.f0)) ∧ w'.cell? ⟨gb361, 1, none⟩ = some (.int .i64 ((rd_T64 l0_1 x10_1).f0.f1)) ∧ w'.cell? ⟨gb361, 2, none⟩ = some (.int .i64 ((rd_T64 l0_1 x10_1).f0.f2)) ∧ w'.cell? ⟨gb361, 3, none⟩ = some (.int .i64 ((rd_T64 l0_1 x10_1).f0.f3)) ∧ w'.cell? ⟨gb361, 4, none⟩ = some (.int .i64 ((rd_T64 l0_1 x10_1).f0.f4)) ∧ w'.cell? ⟨gb361, 5, none⟩ = some (.int .i64 ((rd_T64 l0_1 x10_1).f1)) ∧ w'.cell? ⟨gb361, 6, none⟩ = some (.int .i64 ((rd_T64 l0_1 x10_1).f2)) ∧ w'.cell? ⟨gb361, 7, none⟩ = some (.bool ((rd_T64 l0_1 x10_1).f3)) ∧ w'.cell? ⟨gb361, 8, none⟩ = some (.string ((rd_T64 l0_1 x10_1).f4.f0)) ∧ w'.cell? ⟨gb361, 9, none⟩ = some (.int .i64 ((rd_T64 l0_1 x10_1).f4.f1)) ∧ w'.cell? ⟨gb361, 10, none⟩ = some (.int .i64 ((rd_T64 l0_1 x10_1).f4.f2)) ∧ w'.cell? ⟨gb361, 11, none⟩ = some (.int .i64 ((rd_T64 l0_1 x10_1).f4.f3)) ∧ w'.cell? ⟨gb361, 12, none⟩ = some (.int .i64 ((rd_T64 l0_1 x10_1).f4.f4)) ∧ w'.cell? ⟨gb363, 0, none⟩ = some (.int .i64 ((rd_T50 t352 x9_2).f0.f0)) ∧ w'.cell? ⟨gb363, 1, none⟩ = some (.int .i64 ((rd_T50 t352 x9_2).f0.f1)) ∧ w'.cell? ⟨gb363, 2, none⟩ = some (.int .i64 ((rd_T50 t352 x9_2).f0.f2)) ∧ w'.cell? ⟨gb363, 3, none⟩ = some (.int .i64 ((rd_T50 t352 x9_2).f0.f3)) ∧ w'.cell? ⟨gb363, 4, none⟩ = some (.int .i64 ((rd_T50 t352 x9_2).f0.f4)) ∧ w'.cell? ⟨gb363, 5, none⟩ = some (.int .i64 ((rd_T50 t352 x9_2).f1)) ∧ w'.cell? ⟨gb363, 6, none⟩ = some (.bool ((rd_T50 t352 x9_2).f2)) ∧ w'.cell? ⟨gb363, 7, none⟩ = some (.int .i64 ((rd_T50 t352 x9_2).f3.f0)) ∧ w'.cell? ⟨gb363, 8, none⟩ = some (.int .i64 ((rd_T50 t352 x9_2).f3.f1)) ∧ w'.cell? ⟨gb363, 9, none⟩ = some (.int .i64 ((rd_T50 t352 x9_2).f3.f2)) ∧ w'.cell? ⟨gb363, 10, none⟩ = some (.int .i64 ((rd_T50 t352 x9_2).f3.f3)) ∧ w'.cell? ⟨gb363, 11, none⟩ = some (.int .i64 ((rd_T50 t352 x9_2).f3.f4)) ∧ w'.cell? ⟨gb351, 0, none⟩ = some (.int .i64 a2_0) ∧ w'.cell? ⟨gb351, 1, none⟩ = some (.int .i64 a2_1) ∧ w'.cell? ⟨gb351, 2, none⟩ = some (.int .i64 a2_2) ∧ w'.cell? ⟨gb351, 3, none⟩ = some (.int .i64 a2_3) ∧ w'.cell? ⟨gb351, 4, none⟩ = some (.int .i64 a2_4) ∧ w'.cell? ⟨gb351, 5, none⟩ = some (.int .i64 a2_5) ∧ w'.cell? ⟨gb351, 6, none⟩ = some (.int .i64 a2_6) ∧ w'.cell? ⟨gb351, 7, none⟩ = some (.string a2_7) ∧ w'.cell? ⟨gb351, 8, none⟩ = some (.int .i64 a2_8) ∧ w'.cell? ⟨gb350, 0, none⟩ = some (.slice A1_0 l1_0.length c1_0) ∧ w'.cell? ⟨gb350, 1, none⟩ = some (.slice A1_1 l1_1.length c1_1)) (ds := []) (bsq 0 18) (by kernel_rfl) rfl rfl ⟨(blk_cell BK361.out 0).trans rfl, (blk_cell BK361.out 1).trans rfl, (blk_cell BK361.out 2).trans rfl, (blk_cell BK361.out 3).trans rfl, (blk_cell BK361.out 4).trans rfl, (blk_cell BK361.out 5).trans rfl, (blk_cell BK361.out 6).trans rfl, (blk_cell BK361.out 7).trans rfl, (blk_cell BK361.out 8).trans rfl, (blk_cell BK361.out 9).trans rfl, (blk_cell BK361.out 10).trans rfl, (blk_cell BK361.out 11).trans rfl, (blk_cell BK361.out 12).trans rfl, (blk_cell BK363.out 0).trans rfl, (blk_cell BK363.out 1).trans rfl, (blk_cell BK363.out 2).trans rfl, (blk_cell BK363.out 3).trans rfl, (blk_cell BK363.out 4).trans rfl, (blk_cell BK363.out 5).trans rfl, (blk_cell BK363.out 6).trans rfl, (blk_cell BK363.out 7).trans rfl, (blk_cell BK363.out 8).trans rfl, (blk_cell BK363.out 9).trans rfl, (blk_cell BK363.out 10).trans rfl, (blk_cell BK363.out 11).trans rfl, (blk_cell BK351.out 0).trans rfl, (blk_cell BK351.out 1).trans rfl, (blk_cell BK351.out 2).trans rfl, (blk_cell BK351.out 3).trans rfl, (blk_cell BK351.out 4).trans rfl, (blk_cell BK351.out 5).trans rfl, (blk_cell BK351.out 6).trans rfl, (blk_cell BK351.out 7).trans rfl, (blk_cell BK351.out 8).trans rfl, (blk_cell BK350.out 0).trans rfl, (blk_cell BK350.out 1).trans rfl⟩ (fun hHeld => ?_); refine with_tabW signalbenchlaw44_TrigautoHolds.tab19 signalbenchlaw44_TrigautoHolds.bits19 (fun HT_ HW_ => ?_)
                   generalize wc.drew = w120 at HO_357000 BK349 BK350 BK351 BK356 BK361 BK363 HB hHeld ⊢
                   refine pure_ (i := 0) (N := some 83) (v := ?_) (a' := ?_) (bsq 1 17) rfl rfl (any_of HT_.out (by kernel_rfl)) (fun _ _ _ h => h) (Or.inl ⟨by rfl, ?_⟩) ?_ ?_
                   rotate_left
                   ·
                    intro w'
                    go_simp
                    with_reducible rfl
                   rotate_left
                   ·
                    simp only [Act.put, List.setIfInBounds_toArray, List.set_cons_zero, List.set_cons_succ, i64_w, i32_w]
                    rfl
                   refine pure_ (i := 1) (N := some 84) (v := ?_) (a' := ?_) (bsq 2 16) rfl rfl (any_of HT_.out (by kernel_rfl)) (fun _ _ _ h => h) (Or.inl ⟨by rfl, ?_⟩) ?_ ?_
                   rotate_left
                   ·
                    intro w'
                    go_simp
                    with_reducible rfl
                   rotate_left
                   ·
                    simp only [Act.put, List.setIfInBounds_toArray, List.set_cons_zero, List.set_cons_succ, i64_w, i32_w]
                    rfl
                   refine pure_ (i := 2) (N := some 85) (v := ?_) (a' := ?_) (bsq 3 15) rfl rfl (any_of HT_.out (by kernel_rfl)) (fun _ _ _ h => h) (Or.inl ⟨by rfl, ?_⟩) ?_ ?_
                   rotate_left
                   ·
                    intro w'
                    go_simp
                    with_reducible rfl
                   rotate_left
                   ·
                    simp only [Act.put, List.setIfInBounds_toArray, List.set_cons_zero, List.set_cons_succ, i64_w, i32_w]
                    rfl
                   refine pure_ (i := 3) (N := some 86) (v := ?_) (a' := ?_) (bsq 4 14) rfl rfl (any_of HT_.out (by kernel_rfl)) (fun _ _ _ h => h) (Or.inl ⟨by rfl, ?_⟩) ?_ ?_
                   rotate_left
                   ·
                    intro w'
                    go_simp
                    with_reducible rfl
                   rotate_left
                   ·
                    simp only [Act.put, List.setIfInBounds_toArray, List.set_cons_zero, List.set_cons_succ, i64_w, i32_w]
                    rfl
                   refine take_ (i := 4) (N := some 87) (v := ?_) (a' := ?_) (bsq 5 13) rfl rfl (take_ofW HT_.out HW_.out (by kernel_rfl)) (fun _ _ _ h => h) (Or.inl ⟨by rfl, ?_⟩) hHeld ?_ ?_
                   rotate_left
                   ·
                    rintro w' ⟨s0, s1, s2, s3, s4, s5, s6, s7, s8, s9, s10, s11, s12, s13, s14, s15, s16, s17, s18, s19, s20, s21, s22, s23, s24, s25, s26, s27, s28, s29, s30, s31, s32, s33, s34, s35⟩
                    go_simp
                    with_reducible rfl
                   rotate_left
                   ·
                    simp only [Act.put, List.setIfInBounds_toArray, List.set_cons_zero, List.set_cons_succ, i64_w, i32_w]
                    rfl
                   refine pure_ (i := 5) (N := some 88) (v := ?_) (a' := ?_) (bsq 6 12) rfl rfl (any_of HT_.out (by kernel_rfl)) (fun _ _ _ h => h) (Or.inl ⟨by rfl, ?_⟩) ?_ ?_
                   rotate_left
                   ·
                    intro w'
                    go_simp
                    with_reducible rfl
                   rotate_left
                   ·
                    simp only [Act.put, List.setIfInBounds_toArray, List.set_cons_zero, List.set_cons_succ, i64_w, i32_w]
                    rfl
                   refine pure_ (i := 6) (N := some 89) (v := ?_) (a' := ?_) (bsq 7 11) rfl rfl (any_of HT_.out (by kernel_rfl)) (fun _ _ _ h => h) (Or.inl ⟨by rfl, ?_⟩) ?_ ?_
                   rotate_left
                   ·
                    intro w'
                    go_simp
                    with_reducible rfl
                   rotate_left
                   ·
                    simp only [Act.put, List.setIfInBounds_toArray, List.set_cons_zero, List.set_cons_succ, i64_w, i32_w]
                    rfl
                   refine pure_ (i := 7) (N := some 90) (v := ?_) (a' := ?_) (bsq 8 10) rfl rfl (any_of HT_.out (by kernel_rfl)) (fun _ _ _ h => h) (Or.inl ⟨by rfl, ?_⟩) ?_ ?_
                   rotate_left
                   ·
                    intro w'
                    go_simp
                    with_reducible rfl
                   rotate_left
                   ·
                    simp only [Act.put, List.setIfInBounds_toArray, List.set_cons_zero, List.set_cons_succ, i64_w, i32_w]
                    rfl
                   refine pure_ (i := 11) (N := some 94) (v := ?_) (a' := ?_) #[true, true, true, true, true, true, true, true, false, false, false, true, false, false, false, false, false, false] rfl rfl (any_of HT_.out (by kernel_rfl)) (fun _ _ _ h => h) (Or.inl ⟨by rfl, ?_⟩) ?_ ?_
                   rotate_left
                   ·
                    intro w'
                    go_simp
                    with_reducible rfl
                   rotate_left
                   ·
                    simp only [Act.put, List.setIfInBounds_toArray, List.set_cons_zero, List.set_cons_succ, i64_w, i32_w]
                    rfl
                   refine take_ (i := 8) (N := some 91) (v := ?_) (a' := ?_) #[true, true, true, true, true, true, true, true, true, false, false, true, false, false, false, false, false, false] rfl rfl (take_ofW HT_.out HW_.out (by kernel_rfl)) (fun _ _ _ h => h) (Or.inl ⟨by rfl, ?_⟩) hHeld ?_ ?_
                   rotate_left
                   ·
                    rintro w' ⟨s0, s1, s2, s3, s4, s5, s6, s7, s8, s9, s10, s11, s12, s13, s14, s15, s16, s17, s18, s19, s20, s21, s22, s23, s24, s25, s26, s27, s28, s29, s30, s31, s32, s33, s34, s35⟩
                    go_simp
                    with_reducible rfl
                   rotate_left
                   ·
                    simp only [Act.put, List.setIfInBounds_toArray, List.set_cons_zero, List.set_cons_succ, i64_w, i32_w]
                    rfl
                   refine take_ (i := 9) (N := some 92) (v := ?_) (a' := ?_) #[true, true, true, true, true, true, true, true, true, true, false, true, false, false, false, false, false, false] rfl rfl (take_ofW HT_.out HW_.out (by kernel_rfl)) (fun _ _ _ h => h) (Or.inl ⟨by rfl, ?_⟩) hHeld ?_ ?_
                   rotate_left
                   ·
                    rintro w' ⟨s0, s1, s2, s3, s4, s5, s6, s7, s8, s9, s10, s11, s12, s13, s14, s15, s16, s17, s18, s19, s20, s21, s22, s23, s24, s25, s26, s27, s28, s29, s30, s31, s32, s33, s34, s35⟩
                    go_simp
                    with_reducible rfl
                   rotate_left
                   ·
                    simp only [Act.put, List.setIfInBounds_toArray, List.set_cons_zero, List.set_cons_succ, i64_w, i32_w]
                    rfl
                   refine take_ (i := 12) (N := some 95) (v := ?_) (a' := ?_) #[true, true, true, true, true, true, true, true, true, true, false, true, true, false, false, false, false, false] rfl rfl (take_ofW HT_.out HW_.out (by kernel_rfl)) (fun _ _ _ h => h) (Or.inl ⟨by rfl, ?_⟩) hHeld ?_ ?_
                   rotate_left
                   ·
                    rintro w' ⟨s0, s1, s2, s3, s4, s5, s6, s7, s8, s9, s10, s11, s12, s13, s14, s15, s16, s17, s18, s19, s20, s21, s22, s23, s24, s25, s26, s27, s28, s29, s30, s31, s32, s33, s34, s35⟩
                    go_simp
                    with_reducible rfl
                   rotate_left
                   ·
                    simp only [Act.put, List.setIfInBounds_toArray, List.set_cons_zero, List.set_cons_succ, i64_w, i32_w]
                    rfl
                   refine take_ (i := 13) (N := some 96) (v := ?_) (a' := ?_) #[true, true, true, true, true, true, true, true, true, true, false, true, true, true, false, false, false, false] rfl rfl (take_ofW HT_.out HW_.out (by kernel_rfl)) (fun _ _ _ h => h) (Or.inl ⟨by rfl, ?_⟩) hHeld ?_ ?_
                   rotate_left
                   ·
                    rintro w' ⟨s0, s1, s2, s3, s4, s5, s6, s7, s8, s9, s10, s11, s12, s13, s14, s15, s16, s17, s18, s19, s20, s21, s22, s23, s24, s25, s26, s27, s28, s29, s30, s31, s32, s33, s34, s35⟩
                    go_simp
                    with_reducible rfl
                   rotate_left
                   ·
                    simp only [Act.put, List.setIfInBounds_toArray, List.set_cons_zero, List.set_cons_succ, i64_w, i32_w]
                    rfl
                   refine take_ (i := 14) (N := some 97) (v := ?_) (a' := ?_) #[true, true, true, true, true, true, true, true, true, true, false, true, true, true, true, false, false, false] rfl rfl (take_ofW HT_.out HW_.out (by kernel_rfl)) (fun _ _ _ h => h) (Or.inl ⟨by rfl, ?_⟩) hHeld ?_ ?_
                   rotate_left
                   ·
                    rintro w' ⟨s0, s1, s2, s3, s4, s5, s6, s7, s8, s9, s10, s11, s12, s13, s14, s15, s16, s17, s18, s19, s20, s21, s22, s23, s24, s25, s26, s27, s28, s29, s30, s31, s32, s33, s34, s35⟩
                    go_simp
                    with_reducible rfl
                   rotate_left
                   ·
                    simp only [Act.put, List.setIfInBounds_toArray, List.set_cons_zero, List.set_cons_succ, i64_w, i32_w]
                    rfl
                   refine one_ (i := 10) (N := some 93) (bsq 15 3) rfl rfl (one_of HT_.out (by kernel_rfl)) (by decide) (fun K hK => ?_)
                   refine goes_ Try.func23 (by kernel_rfl) rfl #[.agg #[.int .i64 ((rd_T50 t352 x9_2).f3.f0), .int .i64 ((rd_T50 t352 x9_2).f3.f1), .int .i64 ((rd_T50 t352 x9_2).f3.f2), .int .i64 ((rd_T50 t352 x9_2).f3.f3), .int .i64 ((rd_T50 t352 x9_2).f3.f4)], .agg #[.int .i64 a2_0, .int .i64 a2_1, .int .i64 a2_2, .int .i64 a2_3, .int .i64 a2_4, .int .i64 a2_5, .int .i64 a2_6, .string a2_7, .int .i64 a2_8]] (by rfl) rfl rfl (by (try simp only [List.map_toArray, List.map_cons, List.map_nil]); first | done | rfl | (simp only [List.length_drop, List.length_take]; rfl)) ?_
                   with_reducible refine (trigauto_Holds.calls kj68 ((rd_T50 t352 x9_2).f3.f0) ((rd_T50 t352 x9_2).f3.f1) ((rd_T50 t352 x9_2).f3.f2) ((rd_T50 t352 x9_2).f3.f3) ((rd_T50 t352 x9_2).f3.f4) a2_0 a2_1 a2_2 a2_3 a2_4 a2_5 a2_6 a2_7 a2_8 t366 _ A117.out).mono ?_
                   rintro e w121 ⟨rfl, hb⟩
                   refine ⟨_, rfl, ?_⟩
                   have n0_ := Aside0.mk (Kd.R_below (by (with_reducible repeat (first | apply Kd.R_alloc | apply Kd.R_drewN | apply Kd.R_drew)); exact HO_357000.out) hb)
                   have n1_ := Aside0.mk (blk_below (bg BK349.out) hb)
                   have n2_ := Aside0.mk (blk_below (bg BK350.out) hb)
                   have n3_ := Aside0.mk (blk_below (bg BK351.out) hb)
                   have n4_ := Aside0.mk (blk_below (bg BK356.out) hb)
                   have n5_ := Aside0.mk (blk_below (bg BK361.out) hb)
                   have n6_ := Aside0.mk (blk_below (bg BK363.out) hb)
                   have n7_ := Aside0.mk (below_step (bs HB.out) hb)
                   clear HO_357000
                   clear BK349
                   clear BK350
                   clear BK351
                   clear BK356
                   clear BK361
                   clear BK363
                   clear HB
                   have HO_357000 := n0_
                   have BK349 := n1_
                   have BK350 := n2_
                   have BK351 := n3_
                   have BK356 := n4_
                   have BK361 := n5_
                   have BK363 := n6_
                   have HB := n7_
                   clear n0_ n1_ n2_ n3_ n4_ n5_ n6_ n7_
                   (try clear hb)
                   (try clear hb2)
                   (try clear hk)
                   (try clear hi)
                   refine hK.out _ _ ⟨(blk_cell BK361.out 0).trans rfl, (blk_cell BK361.out 1).trans rfl, (blk_cell BK361.out 2).trans rfl, (blk_cell BK361.out 3).trans rfl, (blk_cell BK361.out 4).trans rfl, (blk_cell BK361.out 5).trans rfl, (blk_cell BK361.out 6).trans rfl, (blk_cell BK361.out 7).trans rfl, (blk_cell BK361.out 8).trans rfl, (blk_cell BK361.out 9).trans rfl, (blk_cell BK361.out 10).trans rfl, (blk_cell BK361.out 11).trans rfl, (blk_cell BK361.out 12).trans rfl, (blk_cell BK363.out 0).trans rfl, (blk_cell BK363.out 1).trans rfl, (blk_cell BK363.out 2).trans rfl, (blk_cell BK363.out 3).trans rfl, (blk_cell BK363.out 4).trans rfl, (blk_cell BK363.out 5).trans rfl, (blk_cell BK363.out 6).trans rfl, (blk_cell BK363.out 7).trans rfl, (blk_cell BK363.out 8).trans rfl, (blk_cell BK363.out 9).trans rfl, (blk_cell BK363.out 10).trans rfl, (blk_cell BK363.out 11).trans rfl, (blk_cell BK351.out 0).trans rfl, (blk_cell BK351.out 1).trans rfl, (blk_cell BK351.out 2).trans rfl, (blk_cell BK351.out 3).trans rfl, (blk_cell BK351.out 4).trans rfl, (blk_cell BK351.out 5).trans rfl, (blk_cell BK351.out 6).trans rfl, (blk_cell BK351.out 7).trans rfl, (blk_cell BK351.out 8).trans rfl, (blk_cell BK350.out 0).trans rfl, (blk_cell BK350.out 1).trans rfl⟩ (fun hHeld => ?_)
                   clear hK K
                   refine norm_ (a' := ?_) ?_ ?_
                   rotate_left
                   ·
                    show Act.put _ (some 93) _ = _
                    simp only [Act.put, List.setIfInBounds_toArray, List.set_cons_zero, List.set_cons_succ, i64_w, i32_w]
                    rfl
                   refine one_ (i := 15) (N := some 98) (bsq 16 2) rfl rfl (one_of HT_.out (by kernel_rfl)) (by decide) (fun K hK => ?_)
                   refine goes_ Try.func37 (by kernel_rfl) rfl #[.agg #[.string ((rd_T64 l0_1 x10_1).f4.f0), .int .i64 ((rd_T64 l0_1 x10_1).f4.f1), .int .i64 ((rd_T64 l0_1 x10_1).f4.f2), .int .i64 ((rd_T64 l0_1 x10_1).f4.f3), .int .i64 ((rd_T64 l0_1 x10_1).f4.f4)], .agg #[.slice A1_0 l1_0.length c1_0, .slice A1_1 l1_1.length c1_1], .agg #[.int .i64 a2_0, .int .i64 a2_1, .int .i64 a2_2, .int .i64 a2_3, .int .i64 a2_4, .int .i64 a2_5, .int .i64 a2_6, .string a2_7, .int .i64 a2_8]] (by rfl) rfl rfl (by (try simp only [List.map_toArray, List.map_cons, List.map_nil]); first | done | rfl | (simp only [List.length_drop, List.length_take]; rfl)) ?_
                   with_reducible refine (trig_Holds.calls kj68 ((rd_T64 l0_1 x10_1).f4.f0) ((rd_T64 l0_1 x10_1).f4.f1) ((rd_T64 l0_1 x10_1).f4.f2) ((rd_T64 l0_1 x10_1).f4.f3) ((rd_T64 l0_1 x10_1).f4.f4) _ _ l1_0 _ _ l1_1 a2_0 a2_1 a2_2 a2_3 a2_4 a2_5 a2_6 a2_7 a2_8 t367 _ ?side1 ?side2 ?side3 ?side4 A118.out).mono ?_
                   (case side1 => repeat (first | exact (Kd.C_below HR1_0.out HB.out) | (with_reducible refine Kd.C_alloc ?_ _) | (with_reducible refine Kd.C_drewN ?_ _) | (with_reducible refine Kd.C_drew ?_)))
                   (case side2 => exact HC1_0.out)
                   (case side3 => repeat (first | exact (Kd.C_below HR1_1.out HB.out) | (with_reducible refine Kd.C_alloc ?_ _) | (with_reducible refine Kd.C_drewN ?_ _) | (with_reducible refine Kd.C_drew ?_)))
                   (case side4 => exact HC1_1.out)
                   rintro e w122 ⟨rfl, hb⟩
                   refine ⟨_, rfl, ?_⟩
                   have n0_ := Aside0.mk (Kd.R_below (by (with_reducible repeat (first | apply Kd.R_alloc | apply Kd.R_drewN | apply Kd.R_drew)); exact HO_357000.out) hb)
                   have n1_ := Aside0.mk (blk_below (bg BK349.out) hb)
                   have n2_ := Aside0.mk (blk_below (bg BK350.out) hb)
                   have n3_ := Aside0.mk (blk_below (bg BK351.out) hb)
                   have n4_ := Aside0.mk (blk_below (bg BK356.out) hb)
                   have n5_ := Aside0.mk (blk_below (bg BK361.out) hb)
                   have n6_ := Aside0.mk (blk_below (bg BK363.out) hb)
                   have n7_ := Aside0.mk (below_step (bs HB.out) hb)
                   clear HO_357000
                   clear BK349
                   clear BK350
                   clear BK351
                   clear BK356
                   clear BK361
                   clear BK363
                   clear HB
                   have HO_357000 := n0_
                   have BK349 := n1_
                   have BK350 := n2_
                   have BK351 := n3_
                   have BK356 := n4_
                   have BK361 := n5_
                   have BK363 := n6_
                   have HB := n7_
                   clear n0_ n1_ n2_ n3_ n4_ n5_ n6_ n7_
                   (try clear hb)
                   (try clear hb2)
                   (try clear hk)
                   (try clear hi)
                   refine hK.out _ _ ⟨(blk_cell BK361.out 0).trans rfl, (blk_cell BK361.out 1).trans rfl, (blk_cell BK361.out 2).trans rfl, (blk_cell BK361.out 3).trans rfl, (blk_cell BK361.out 4).trans rfl, (blk_cell BK361.out 5).trans rfl, (blk_cell BK361.out 6).trans rfl, (blk_cell BK361.out 7).trans rfl, (blk_cell BK361.out 8).trans rfl, (blk_cell BK361.out 9).trans rfl, (blk_cell BK361.out 10).trans rfl, (blk_cell BK361.out 11).trans rfl, (blk_cell BK361.out 12).trans rfl, (blk_cell BK363.out 0).trans rfl, (blk_cell BK363.out 1).trans rfl, (blk_cell BK363.out 2).trans rfl, (blk_cell BK363.out 3).trans rfl, (blk_cell BK363.out 4).trans rfl, (blk_cell BK363.out 5).trans rfl, (blk_cell BK363.out 6).trans rfl, (blk_cell BK363.out 7).trans rfl, (blk_cell BK363.out 8).trans rfl, (blk_cell BK363.out 9).trans rfl, (blk_cell BK363.out 10).trans rfl, (blk_cell BK363.out 11).trans rfl, (blk_cell BK351.out 0).trans rfl, (blk_cell BK351.out 1).trans rfl, (blk_cell BK351.out 2).trans rfl, (blk_cell BK351.out 3).trans rfl, (blk_cell BK351.out 4).trans rfl, (blk_cell BK351.out 5).trans rfl, (blk_cell BK351.out 6).trans rfl, (blk_cell BK351.out 7).trans rfl, (blk_cell BK351.out 8).trans rfl, (blk_cell BK350.out 0).trans rfl, (blk_cell BK350.out 1).trans rfl⟩ (fun hHeld => ?_)
                   clear hK K
                   refine norm_ (a' := ?_) ?_ ?_
                   rotate_left
                   ·
                    show Act.put _ (some 98) _ = _
                    simp only [Act.put, List.setIfInBounds_toArray, List.set_cons_zero, List.set_cons_succ, i64_w, i32_w]
                    rfl
                   refine pure_ (i := 16) (N := some 99) (v := ?_) (a' := ?_) (bsq 17 1) rfl rfl (any_of HT_.out (by kernel_rfl)) (fun _ _ _ h => h) (Or.inl ⟨by rfl, ?_⟩) ?_ ?_
                   rotate_left
                   ·
                    intro w'
                    go_simp
                    with_reducible rfl
                   rotate_left
                   ·
                    simp only [Act.put, List.setIfInBounds_toArray, List.set_cons_zero, List.set_cons_succ, i64_w, i32_w]
                    rfl
                   refine pure_ (i := 17) (N := some 100) (v := ?_) (a' := ?_) (bsq 18 0) rfl rfl (any_of HT_.out (by kernel_rfl)) (fun _ _ _ h => h) (Or.inl ⟨by rfl, ?_⟩) ?_ ?_
                   rotate_left
                   ·
                    intro w'
                    go_simp
                    with_reducible rfl
                   rotate_left
                   ·
                    simp only [Act.put, List.setIfInBounds_toArray, List.set_cons_zero, List.set_cons_succ, i64_w, i32_w]
                    rfl
                   refine done_ (done_of HT_.out (by kernel_rfl)) ?_
                   try go_wp2
                   go_ret
                   exact ⟨by first | rfl | (simp [errW_none, errW_some] <;> rfl) | (simp [*, errW_none, errW_some] <;> rfl), bs HB.out⟩
                  ·
                   rw [if_neg c119] at H
                   have c119b0 : (t366 != t367) = false := by simpa using c119
                   (try (have c119b1 : decide (t366 = t367) = true := by simpa using c119))
                   (try (have c119b2 : (t366 == t367) = true := by simpa using c119))
                   clear c119
                   have H' := Aside0.mk H
                   clear H
                   try go_wp2
                   have n0_ := Aside0.mk (Kd.R_drew HO_357000.out)
                   have n1_ := Aside0.mk (blk_drew BK349.out)
                   have n2_ := Aside0.mk (blk_drew BK350.out)
                   have n3_ := Aside0.mk (blk_drew BK351.out)
                   have n4_ := Aside0.mk (blk_drew BK356.out)
                   have n5_ := Aside0.mk (blk_drew BK361.out)
                   have n6_ := Aside0.mk (blk_drew BK363.out)
                   have n7_ := Aside0.mk (below_drew1 HB.out)
                   clear HO_357000
                   clear BK349
                   clear BK350
                   clear BK351
                   clear BK356
                   clear BK361
                   clear BK363
                   clear HB
                   have HO_357000 := n0_
                   have BK349 := n1_
                   have BK350 := n2_
                   have BK351 := n3_
                   have BK356 := n4_
                   have BK361 := n5_
                   have BK363 := n6_
                   have HB := n7_
                   clear n0_ n1_ n2_ n3_ n4_ n5_ n6_ n7_
                   refine start_ (n := 18) (S := fun w' => w'.cell? ⟨gb361, 0, none⟩ = some (.string ((rd_T64 l0_1 x10_1).f0.f0)) ∧ w'.cell? ⟨gb361, 1, none⟩ = some (.int .i64 ((rd_T64 l0_1 x10_1).f0.f1)) ∧ w'.cell? ⟨gb361, 2, none⟩ = some (.int .i64 ((rd_T64 l0_1 x10_1).f0.f2)) ∧ w'.cell? ⟨gb361, 3, none⟩ = some (.int .i64 ((rd_T64 l0_1 x10_1).f0.f3)) ∧ w'.cell? ⟨gb361, 4, none⟩ = some (.int .i64 ((rd_T64 l0_1 x10_1).f0.f4)) ∧ w'.cell? ⟨gb361, 5, none⟩ = some (.int .i64 ((rd_T64 l0_1 x10_1).f1)) ∧ w'.cell? ⟨gb361, 6, none⟩ = some (.int .i64 ((rd_T64 l0_1 x10_1).f2)) ∧ w'.cell? ⟨gb361, 7, none⟩ = some (.bool ((rd_T64 l0_1 x10_1).f3)) ∧ w'.cell? ⟨gb361, 8, none⟩ = some (.string ((rd_T64 l0_1 x10_1).f4.f0)) ∧ w'.cell? ⟨gb361, 9, none⟩ = some (.int .i64 ((rd_T64 l0_1 x10_1).f4.f1)) ∧ w'.cell? ⟨gb361, 10, none⟩ = some (.int .i64 ((rd_T64 l0_1 x10_1).f4.f2)) ∧ w'.cell? ⟨gb361, 11, none⟩ = some (.int .i64 ((rd_T64 l0_1 x10_1).f4.f3)) ∧ w'.cell? ⟨gb361, 12, none⟩ = some (.int .i64 ((rd_T64 l0_1 x10_1).f4.f4)) ∧ w'.cell? ⟨gb363, 0, none⟩ = some (.int .i64 ((rd_T50 t352 x9_2).f0.f0)) ∧ w'.cell? ⟨gb363, 1, none⟩ = some (.int .i64 ((rd_T50 t352 x9_2).f0.f1)) ∧ w'.cell? ⟨gb363, 2, none⟩ = some (.int .i64 ((rd_T50 t352 x9_2).f0.f2)) ∧ w'.cell? ⟨gb363, 3, none⟩ = some (.int .i64 ((rd_T50 t352 x9_2).f0.f3)) ∧ w'.cell? ⟨gb363, 4, none⟩ = some (.int .i64 ((rd_T50 t352 x9_2).f0.f4)) ∧ w'.cell? ⟨gb363, 5, none⟩ = some (.int .i64 ((rd_T50 t352 x9_2).f1)) ∧ w'.cell? ⟨gb363, 6, none⟩ = some (.bool ((rd_T50 t352 x9_2).f2)) ∧ w'.cell? ⟨gb363, 7, none⟩ = some (.int .i64 ((rd_T50 t352 x9_2).f3.f0)) ∧ w'.cell? ⟨gb363, 8, none⟩ = some (.int .i64 ((rd_T50 t352 x9_2).f3.f1)) ∧ w'.cell? ⟨gb363, 9, none⟩ = some (.int .i64 ((rd_T50 t352 x9_2).f3.f2)) ∧ w'.cell? ⟨gb363, 10, none⟩ = some (.int .i64 ((rd_T50 t352 x9_2).f3.f3)) ∧ w'.cell? ⟨gb363, 11, none⟩ = some (.int .i64 ((rd_T50 t352 x9_2).f3.f4)) ∧ w'.cell? ⟨gb351, 0, none⟩ = some (.int .i64 a2_0) ∧ w'.cell? ⟨gb351, 1, none⟩ = some (.int .i64 a2_1) ∧ w'.cell? ⟨gb351, 2, none⟩ = some (.int .i64 a2_2) ∧ w'.cell? ⟨gb351, 3, none⟩ = some (.int .i64 a2_3) ∧ w'.cell? ⟨gb351, 4, none⟩ = some (.int .i64 a2_4) ∧ w'.cell? ⟨gb351, 5, none⟩ = some (.int .i64 a2_5) ∧ w'.cell? ⟨gb351, 6, none⟩ = some (.int .i64 a2_6) ∧ w'.cell? ⟨gb351, 7, none⟩ = some (.string a2_7) ∧ w'.cell? ⟨gb351, 8, none⟩ = some (.int .i64 a2_8) ∧ w'.cell? ⟨gb350, 0, none⟩ = some (.slice A1_0 l1_0.length c1_0) ∧ w'.cell? ⟨gb350, 1, none⟩ = some (.slice A1_1 l1_1.length c1_1)) (ds := []) (bsq 0 18) (by kernel_rfl) rfl rfl ⟨(blk_cell BK361.out 0).trans rfl, (blk_cell BK361.out 1).trans rfl, (blk_cell BK361.out 2).trans rfl, (blk_cell BK361.out 3).trans rfl, (blk_cell BK361.out 4).trans rfl, (blk_cell BK361.out 5).trans rfl, (blk_cell BK361.out 6).trans rfl, (blk_cell BK361.out 7).trans rfl, (blk_cell BK361.out 8).trans rfl, (blk_cell BK361.out 9).trans rfl, (blk_cell BK361.out 10).trans rfl, (blk_cell BK361.out 11).trans rfl, (blk_cell BK361.out 12).trans rfl, (blk_cell BK363.out 0).trans rfl, (blk_cell BK363.out 1).trans rfl, (blk_cell BK363.out 2).trans rfl, (blk_cell BK363.out 3).trans rfl, (blk_cell BK363.out 4).trans rfl, (blk_cell BK363.out 5).trans rfl, (blk_cell BK363.out 6).trans rfl, (blk_cell BK363.out 7).trans rfl, (blk_cell BK363.out 8).trans rfl, (blk_cell BK363.out 9).trans rfl, (blk_cell BK363.out 10).trans rfl, (blk_cell BK363.out 11).trans rfl, (blk_cell BK351.out 0).trans rfl, (blk_cell BK351.out 1).trans rfl, (blk_cell BK351.out 2).trans rfl, (blk_cell BK351.out 3).trans rfl, (blk_cell BK351.out 4).trans rfl, (blk_cell BK351.out 5).trans rfl, (blk_cell BK351.out 6).trans rfl, (blk_cell BK351.out 7).trans rfl, (blk_cell BK351.out 8).trans rfl, (blk_cell BK350.out 0).trans rfl, (blk_cell BK350.out 1).trans rfl⟩ (fun hHeld => ?_); refine with_tabW signalbenchlaw44_TrigautoHolds.tab19 signalbenchlaw44_TrigautoHolds.bits19 (fun HT_ HW_ => ?_)
                   generalize wc.drew = w123 at HO_357000 BK349 BK350 BK351 BK356 BK361 BK363 HB hHeld ⊢
                   refine pure_ (i := 0) (N := some 83) (v := ?_) (a' := ?_) (bsq 1 17) rfl rfl (any_of HT_.out (by kernel_rfl)) (fun _ _ _ h => h) (Or.inl ⟨by rfl, ?_⟩) ?_ ?_
                   rotate_left
                   ·
                    intro w'
                    go_simp
                    with_reducible rfl
                   rotate_left
                   ·
                    simp only [Act.put, List.setIfInBounds_toArray, List.set_cons_zero, List.set_cons_succ, i64_w, i32_w]
                    rfl
                   refine pure_ (i := 1) (N := some 84) (v := ?_) (a' := ?_) (bsq 2 16) rfl rfl (any_of HT_.out (by kernel_rfl)) (fun _ _ _ h => h) (Or.inl ⟨by rfl, ?_⟩) ?_ ?_
                   rotate_left
                   ·
                    intro w'
                    go_simp
                    with_reducible rfl
                   rotate_left
                   ·
                    simp only [Act.put, List.setIfInBounds_toArray, List.set_cons_zero, List.set_cons_succ, i64_w, i32_w]
                    rfl
                   refine pure_ (i := 2) (N := some 85) (v := ?_) (a' := ?_) (bsq 3 15) rfl rfl (any_of HT_.out (by kernel_rfl)) (fun _ _ _ h => h) (Or.inl ⟨by rfl, ?_⟩) ?_ ?_
                   rotate_left
                   ·
                    intro w'
                    go_simp
                    with_reducible rfl
                   rotate_left
                   ·
                    simp only [Act.put, List.setIfInBounds_toArray, List.set_cons_zero, List.set_cons_succ, i64_w, i32_w]
                    rfl
                   refine pure_ (i := 3) (N := some 86) (v := ?_) (a' := ?_) (bsq 4 14) rfl rfl (any_of HT_.out (by kernel_rfl)) (fun _ _ _ h => h) (Or.inl ⟨by rfl, ?_⟩) ?_ ?_
                   rotate_left
                   ·
                    intro w'
                    go_simp
                    with_reducible rfl
                   rotate_left
                   ·
                    simp only [Act.put, List.setIfInBounds_toArray, List.set_cons_zero, List.set_cons_succ, i64_w, i32_w]
                    rfl
                   refine take_ (i := 4) (N := some 87) (v := ?_) (a' := ?_) (bsq 5 13) rfl rfl (take_ofW HT_.out HW_.out (by kernel_rfl)) (fun _ _ _ h => h) (Or.inl ⟨by rfl, ?_⟩) hHeld ?_ ?_
                   rotate_left
                   ·
                    rintro w' ⟨s0, s1, s2, s3, s4, s5, s6, s7, s8, s9, s10, s11, s12, s13, s14, s15, s16, s17, s18, s19, s20, s21, s22, s23, s24, s25, s26, s27, s28, s29, s30, s31, s32, s33, s34, s35⟩
                    go_simp
                    with_reducible rfl
                   rotate_left
                   ·
                    simp only [Act.put, List.setIfInBounds_toArray, List.set_cons_zero, List.set_cons_succ, i64_w, i32_w]
                    rfl
                   refine pure_ (i := 5) (N := some 88) (v := ?_) (a' := ?_) (bsq 6 12) rfl rfl (any_of HT_.out (by kernel_rfl)) (fun _ _ _ h => h) (Or.inl ⟨by rfl, ?_⟩) ?_ ?_
                   rotate_left
                   ·
                    intro w'
                    go_simp
                    with_reducible rfl
                   rotate_left
                   ·
                    simp only [Act.put, List.setIfInBounds_toArray, List.set_cons_zero, List.set_cons_succ, i64_w, i32_w]
                    rfl
                   refine pure_ (i := 6) (N := some 89) (v := ?_) (a' := ?_) (bsq 7 11) rfl rfl (any_of HT_.out (by kernel_rfl)) (fun _ _ _ h => h) (Or.inl ⟨by rfl, ?_⟩) ?_ ?_
                   rotate_left
                   ·
                    intro w'
                    go_simp
                    with_reducible rfl
                   rotate_left
                   ·
                    simp only [Act.put, List.setIfInBounds_toArray, List.set_cons_zero, List.set_cons_succ, i64_w, i32_w]
                    rfl
                   refine pure_ (i := 7) (N := some 90) (v := ?_) (a' := ?_) (bsq 8 10) rfl rfl (any_of HT_.out (by kernel_rfl)) (fun _ _ _ h => h) (Or.inl ⟨by rfl, ?_⟩) ?_ ?_
                   rotate_left
                   ·
                    intro w'
                    go_simp
                    with_reducible rfl
                   rotate_left
                   ·
                    simp only [Act.put, List.setIfInBounds_toArray, List.set_cons_zero, List.set_cons_succ, i64_w, i32_w]
                    rfl
                   refine pure_ (i := 11) (N := some 94) (v := ?_) (a' := ?_) #[true, true, true, true, true, true, true, true, false, false, false, true, false, false, false, false, false, false] rfl rfl (any_of HT_.out (by kernel_rfl)) (fun _ _ _ h => h) (Or.inl ⟨by rfl, ?_⟩) ?_ ?_
                   rotate_left
                   ·
                    intro w'
                    go_simp
                    with_reducible rfl
                   rotate_left
                   ·
                    simp only [Act.put, List.setIfInBounds_toArray, List.set_cons_zero, List.set_cons_succ, i64_w, i32_w]
                    rfl
                   refine take_ (i := 8) (N := some 91) (v := ?_) (a' := ?_) #[true, true, true, true, true, true, true, true, true, false, false, true, false, false, false, false, false, false] rfl rfl (take_ofW HT_.out HW_.out (by kernel_rfl)) (fun _ _ _ h => h) (Or.inl ⟨by rfl, ?_⟩) hHeld ?_ ?_
                   rotate_left
                   ·
                    rintro w' ⟨s0, s1, s2, s3, s4, s5, s6, s7, s8, s9, s10, s11, s12, s13, s14, s15, s16, s17, s18, s19, s20, s21, s22, s23, s24, s25, s26, s27, s28, s29, s30, s31, s32, s33, s34, s35⟩
                    go_simp
                    with_reducible rfl
                   rotate_left
                   ·
                    simp only [Act.put, List.setIfInBounds_toArray, List.set_cons_zero, List.set_cons_succ, i64_w, i32_w]
                    rfl
                   refine take_ (i := 9) (N := some 92) (v := ?_) (a' := ?_) #[true, true, true, true, true, true, true, true, true, true, false, true, false, false, false, false, false, false] rfl rfl (take_ofW HT_.out HW_.out (by kernel_rfl)) (fun _ _ _ h => h) (Or.inl ⟨by rfl, ?_⟩) hHeld ?_ ?_
                   rotate_left
                   ·
                    rintro w' ⟨s0, s1, s2, s3, s4, s5, s6, s7, s8, s9, s10, s11, s12, s13, s14, s15, s16, s17, s18, s19, s20, s21, s22, s23, s24, s25, s26, s27, s28, s29, s30, s31, s32, s33, s34, s35⟩
                    go_simp
                    with_reducible rfl
                   rotate_left
                   ·
                    simp only [Act.put, List.setIfInBounds_toArray, List.set_cons_zero, List.set_cons_succ, i64_w, i32_w]
                    rfl
                   refine take_ (i := 12) (N := some 95) (v := ?_) (a' := ?_) #[true, true, true, true, true, true, true, true, true, true, false, true, true, false, false, false, false, false] rfl rfl (take_ofW HT_.out HW_.out (by kernel_rfl)) (fun _ _ _ h => h) (Or.inl ⟨by rfl, ?_⟩) hHeld ?_ ?_
                   rotate_left
                   ·
                    rintro w' ⟨s0, s1, s2, s3, s4, s5, s6, s7, s8, s9, s10, s11, s12, s13, s14, s15, s16, s17, s18, s19, s20, s21, s22, s23, s24, s25, s26, s27, s28, s29, s30, s31, s32, s33, s34, s35⟩
                    go_simp
                    with_reducible rfl
                   rotate_left
                   ·
                    simp only [Act.put, List.setIfInBounds_toArray, List.set_cons_zero, List.set_cons_succ, i64_w, i32_w]
                    rfl
                   refine take_ (i := 13) (N := some 96) (v := ?_) (a' := ?_) #[true, true, true, true, true, true, true, true, true, true, false, true, true, true, false, false, false, false] rfl rfl (take_ofW HT_.out HW_.out (by kernel_rfl)) (fun _ _ _ h => h) (Or.inl ⟨by rfl, ?_⟩) hHeld ?_ ?_
                   rotate_left
                   ·
                    rintro w' ⟨s0, s1, s2, s3, s4, s5, s6, s7, s8, s9, s10, s11, s12, s13, s14, s15, s16, s17, s18, s19, s20, s21, s22, s23, s24, s25, s26, s27, s28, s29, s30, s31, s32, s33, s34, s35⟩
                    go_simp
                    with_reducible rfl
                   rotate_left
                   ·
                    simp only [Act.put, List.setIfInBounds_toArray, List.set_cons_zero, List.set_cons_succ, i64_w, i32_w]
                    rfl
                   refine take_ (i := 14) (N := some 97) (v := ?_) (a' := ?_) #[true, true, true, true, true, true, true, true, true, true, false, true, true, true, true, false, false, false] rfl rfl (take_ofW HT_.out HW_.out (by kernel_rfl)) (fun _ _ _ h => h) (Or.inl ⟨by rfl, ?_⟩) hHeld ?_ ?_
                   rotate_left
                   ·
                    rintro w' ⟨s0, s1, s2, s3, s4, s5, s6, s7, s8, s9, s10, s11, s12, s13, s14, s15, s16, s17, s18, s19, s20, s21, s22, s23, s24, s25, s26, s27, s28, s29, s30, s31, s32, s33, s34, s35⟩
                    go_simp
                    with_reducible rfl
                   rotate_left
                   ·
                    simp only [Act.put, List.setIfInBounds_toArray, List.set_cons_zero, List.set_cons_succ, i64_w, i32_w]
                    rfl
                   refine one_ (i := 10) (N := some 93) (bsq 15 3) rfl rfl (one_of HT_.out (by kernel_rfl)) (by decide) (fun K hK => ?_)
                   refine goes_ Try.func23 (by kernel_rfl) rfl #[.agg #[.int .i64 ((rd_T50 t352 x9_2).f3.f0), .int .i64 ((rd_T50 t352 x9_2).f3.f1), .int .i64 ((rd_T50 t352 x9_2).f3.f2), .int .i64 ((rd_T50 t352 x9_2).f3.f3), .int .i64 ((rd_T50 t352 x9_2).f3.f4)], .agg #[.int .i64 a2_0, .int .i64 a2_1, .int .i64 a2_2, .int .i64 a2_3, .int .i64 a2_4, .int .i64 a2_5, .int .i64 a2_6, .string a2_7, .int .i64 a2_8]] (by rfl) rfl rfl (by (try simp only [List.map_toArray, List.map_cons, List.map_nil]); first | done | rfl | (simp only [List.length_drop, List.length_take]; rfl)) ?_
                   with_reducible refine (trigauto_Holds.calls kj68 ((rd_T50 t352 x9_2).f3.f0) ((rd_T50 t352 x9_2).f3.f1) ((rd_T50 t352 x9_2).f3.f2) ((rd_T50 t352 x9_2).f3.f3) ((rd_T50 t352 x9_2).f3.f4) a2_0 a2_1 a2_2 a2_3 a2_4 a2_5 a2_6 a2_7 a2_8 t366 _ A117.out).mono ?_
                   rintro e w124 ⟨rfl, hb⟩
                   refine ⟨_, rfl, ?_⟩
                   have n0_ := Aside0.mk (Kd.R_below (by (with_reducible repeat (first | apply Kd.R_alloc | apply Kd.R_drewN | apply Kd.R_drew)); exact HO_357000.out) hb)
                   have n1_ := Aside0.mk (blk_below (bg BK349.out) hb)
                   have n2_ := Aside0.mk (blk_below (bg BK350.out) hb)
                   have n3_ := Aside0.mk (blk_below (bg BK351.out) hb)
                   have n4_ := Aside0.mk (blk_below (bg BK356.out) hb)
                   have n5_ := Aside0.mk (blk_below (bg BK361.out) hb)
                   have n6_ := Aside0.mk (blk_below (bg BK363.out) hb)
                   have n7_ := Aside0.mk (below_step (bs HB.out) hb)
                   clear HO_357000
                   clear BK349
                   clear BK350
                   clear BK351
                   clear BK356
                   clear BK361
                   clear BK363
                   clear HB
                   have HO_357000 := n0_
                   have BK349 := n1_
                   have BK350 := n2_
                   have BK351 := n3_
                   have BK356 := n4_
                   have BK361 := n5_
                   have BK363 := n6_
                   have HB := n7_
                   clear n0_ n1_ n2_ n3_ n4_ n5_ n6_ n7_
                   (try clear hb)
                   (try clear hb2)
                   (try clear hk)
                   (try clear hi)
                   refine hK.out _ _ ⟨(blk_cell BK361.out 0).trans rfl, (blk_cell BK361.out 1).trans rfl, (blk_cell BK361.out 2).trans rfl, (blk_cell BK361.out 3).trans rfl, (blk_cell BK361.out 4).trans rfl, (blk_cell BK361.out 5).trans rfl, (blk_cell BK361.out 6).trans rfl, (blk_cell BK361.out 7).trans rfl, (blk_cell BK361.out 8).trans rfl, (blk_cell BK361.out 9).trans rfl, (blk_cell BK361.out 10).trans rfl, (blk_cell BK361.out 11).trans rfl, (blk_cell BK361.out 12).trans rfl, (blk_cell BK363.out 0).trans rfl, (blk_cell BK363.out 1).trans rfl, (blk_cell BK363.out 2).trans rfl, (blk_cell BK363.out 3).trans rfl, (blk_cell BK363.out 4).trans rfl, (blk_cell BK363.out 5).trans rfl, (blk_cell BK363.out 6).trans rfl, (blk_cell BK363.out 7).trans rfl, (blk_cell BK363.out 8).trans rfl, (blk_cell BK363.out 9).trans rfl, (blk_cell BK363.out 10).trans rfl, (blk_cell BK363.out 11).trans rfl, (blk_cell BK351.out 0).trans rfl, (blk_cell BK351.out 1).trans rfl, (blk_cell BK351.out 2).trans rfl, (blk_cell BK351.out 3).trans rfl, (blk_cell BK351.out 4).trans rfl, (blk_cell BK351.out 5).trans rfl, (blk_cell BK351.out 6).trans rfl, (blk_cell BK351.out 7).trans rfl, (blk_cell BK351.out 8).trans rfl, (blk_cell BK350.out 0).trans rfl, (blk_cell BK350.out 1).trans rfl⟩ (fun hHeld => ?_)
                   clear hK K
                   refine norm_ (a' := ?_) ?_ ?_
                   rotate_left
                   ·
                    show Act.put _ (some 93) _ = _
                    simp only [Act.put, List.setIfInBounds_toArray, List.set_cons_zero, List.set_cons_succ, i64_w, i32_w]
                    rfl
                   refine one_ (i := 15) (N := some 98) (bsq 16 2) rfl rfl (one_of HT_.out (by kernel_rfl)) (by decide) (fun K hK => ?_)
                   refine goes_ Try.func37 (by kernel_rfl) rfl #[.agg #[.string ((rd_T64 l0_1 x10_1).f4.f0), .int .i64 ((rd_T64 l0_1 x10_1).f4.f1), .int .i64 ((rd_T64 l0_1 x10_1).f4.f2), .int .i64 ((rd_T64 l0_1 x10_1).f4.f3), .int .i64 ((rd_T64 l0_1 x10_1).f4.f4)], .agg #[.slice A1_0 l1_0.length c1_0, .slice A1_1 l1_1.length c1_1], .agg #[.int .i64 a2_0, .int .i64 a2_1, .int .i64 a2_2, .int .i64 a2_3, .int .i64 a2_4, .int .i64 a2_5, .int .i64 a2_6, .string a2_7, .int .i64 a2_8]] (by rfl) rfl rfl (by (try simp only [List.map_toArray, List.map_cons, List.map_nil]); first | done | rfl | (simp only [List.length_drop, List.length_take]; rfl)) ?_
                   with_reducible refine (trig_Holds.calls kj68 ((rd_T64 l0_1 x10_1).f4.f0) ((rd_T64 l0_1 x10_1).f4.f1) ((rd_T64 l0_1 x10_1).f4.f2) ((rd_T64 l0_1 x10_1).f4.f3) ((rd_T64 l0_1 x10_1).f4.f4) _ _ l1_0 _ _ l1_1 a2_0 a2_1 a2_2 a2_3 a2_4 a2_5 a2_6 a2_7 a2_8 t367 _ ?side1 ?side2 ?side3 ?side4 A118.out).mono ?_
                   (case side1 => repeat (first | exact (Kd.C_below HR1_0.out HB.out) | (with_reducible refine Kd.C_alloc ?_ _) | (with_reducible refine Kd.C_drewN ?_ _) | (with_reducible refine Kd.C_drew ?_)))
                   (case side2 => exact HC1_0.out)
                   (case side3 => repeat (first | exact (Kd.C_below HR1_1.out HB.out) | (with_reducible refine Kd.C_alloc ?_ _) | (with_reducible refine Kd.C_drewN ?_ _) | (with_reducible refine Kd.C_drew ?_)))
                   (case side4 => exact HC1_1.out)
                   rintro e w125 ⟨rfl, hb⟩
                   refine ⟨_, rfl, ?_⟩
                   have n0_ := Aside0.mk (Kd.R_below (by (with_reducible repeat (first | apply Kd.R_alloc | apply Kd.R_drewN | apply Kd.R_drew)); exact HO_357000.out) hb)
                   have n1_ := Aside0.mk (blk_below (bg BK349.out) hb)
                   have n2_ := Aside0.mk (blk_below (bg BK350.out) hb)
                   have n3_ := Aside0.mk (blk_below (bg BK351.out) hb)
                   have n4_ := Aside0.mk (blk_below (bg BK356.out) hb)
                   have n5_ := Aside0.mk (blk_below (bg BK361.out) hb)
                   have n6_ := Aside0.mk (blk_below (bg BK363.out) hb)
                   have n7_ := Aside0.mk (below_step (bs HB.out) hb)
                   clear HO_357000
                   clear BK349
                   clear BK350
                   clear BK351
                   clear BK356
                   clear BK361
                   clear BK363
                   clear HB
                   have HO_357000 := n0_
                   have BK349 := n1_
                   have BK350 := n2_
                   have BK351 := n3_
                   have BK356 := n4_
                   have BK361 := n5_
                   have BK363 := n6_
                   have HB := n7_
                   clear n0_ n1_ n2_ n3_ n4_ n5_ n6_ n7_
                   (try clear hb)
                   (try clear hb2)
                   (try clear hk)
                   (try clear hi)
                   refine hK.out _ _ ⟨(blk_cell BK361.out 0).trans rfl, (blk_cell BK361.out 1).trans rfl, (blk_cell BK361.out 2).trans rfl, (blk_cell BK361.out 3).trans rfl, (blk_cell BK361.out 4).trans rfl, (blk_cell BK361.out 5).trans rfl, (blk_cell BK361.out 6).trans rfl, (blk_cell BK361.out 7).trans rfl, (blk_cell BK361.out 8).trans rfl, (blk_cell BK361.out 9).trans rfl, (blk_cell BK361.out 10).trans rfl, (blk_cell BK361.out 11).trans rfl, (blk_cell BK361.out 12).trans rfl, (blk_cell BK363.out 0).trans rfl, (blk_cell BK363.out 1).trans rfl, (blk_cell BK363.out 2).trans rfl, (blk_cell BK363.out 3).trans rfl, (blk_cell BK363.out 4).trans rfl, (blk_cell BK363.out 5).trans rfl, (blk_cell BK363.out 6).trans rfl, (blk_cell BK363.out 7).trans rfl, (blk_cell BK363.out 8).trans rfl, (blk_cell BK363.out 9).trans rfl, (blk_cell BK363.out 10).trans rfl, (blk_cell BK363.out 11).trans rfl, (blk_cell BK351.out 0).trans rfl, (blk_cell BK351.out 1).trans rfl, (blk_cell BK351.out 2).trans rfl, (blk_cell BK351.out 3).trans rfl, (blk_cell BK351.out 4).trans rfl, (blk_cell BK351.out 5).trans rfl, (blk_cell BK351.out 6).trans rfl, (blk_cell BK351.out 7).trans rfl, (blk_cell BK351.out 8).trans rfl, (blk_cell BK350.out 0).trans rfl, (blk_cell BK350.out 1).trans rfl⟩ (fun hHeld => ?_)
                   clear hK K
                   refine norm_ (a' := ?_) ?_ ?_
                   rotate_left
                   ·
                    show Act.put _ (some 98) _ = _
                    simp only [Act.put, List.setIfInBounds_toArray, List.set_cons_zero, List.set_cons_succ, i64_w, i32_w]
                    rfl
                   refine pure_ (i := 16) (N := some 99) (v := ?_) (a' := ?_) (bsq 17 1) rfl rfl (any_of HT_.out (by kernel_rfl)) (fun _ _ _ h => h) (Or.inl ⟨by rfl, ?_⟩) ?_ ?_
                   rotate_left
                   ·
                    intro w'
                    go_simp
                    with_reducible rfl
                   rotate_left
                   ·
                    simp only [Act.put, List.setIfInBounds_toArray, List.set_cons_zero, List.set_cons_succ, i64_w, i32_w]
                    rfl
                   refine pure_ (i := 17) (N := some 100) (v := ?_) (a' := ?_) (bsq 18 0) rfl rfl (any_of HT_.out (by kernel_rfl)) (fun _ _ _ h => h) (Or.inl ⟨by rfl, ?_⟩) ?_ ?_
                   rotate_left
                   ·
                    intro w'
                    go_simp
                    with_reducible rfl
                   rotate_left
                   ·
                    simp only [Act.put, List.setIfInBounds_toArray, List.set_cons_zero, List.set_cons_succ, i64_w, i32_w]
                    rfl
                   refine done_ (done_of HT_.out (by kernel_rfl)) ?_
                   try go_wp2
                   go_roundg kj68
                   case measure => have := HK1.out; have := HK2.out; have := HJ68.out; omega
                   case rel => exact ⟨(wrap64 (x9_2 + 1)), (wrap64 (x12_2 + 1)), (by first | rfl | (simp; done) | (simp [*]; done)), (by first | rfl | (simp; done) | (simp [*]; done)), H', ⟨by have := HK1.out; have := HK2.out; have := HJ68.out; omega⟩, ⟨by (with_reducible repeat (first | apply Kd.R_alloc | apply Kd.R_drewN | apply Kd.R_drew)); exact Kd.R_mono HO_357000.out (fun _ hk => trivial)⟩, ⟨bg BK349.out⟩, ⟨bg BK350.out⟩, ⟨bg BK351.out⟩, ⟨bg BK356.out⟩, ⟨bg BK361.out⟩, ⟨bs HB.out⟩⟩
                 ·
                  rw [if_neg c116] at H
                  have c116b0 : ((rd_T64 l0_1 x10_1).f3) = false := by simpa using c116
                  clear c116
                  have H' := Aside0.mk H
                  clear H
                  try go_wp2
                  have n0_ := Aside0.mk (Kd.R_drew HO_357000.out)
                  have n1_ := Aside0.mk (blk_drew BK349.out)
                  have n2_ := Aside0.mk (blk_drew BK350.out)
                  have n3_ := Aside0.mk (blk_drew BK351.out)
                  have n4_ := Aside0.mk (blk_drew BK356.out)
                  have n5_ := Aside0.mk (blk_drew BK361.out)
                  have n6_ := Aside0.mk (blk_drew BK363.out)
                  have n7_ := Aside0.mk (below_drew1 HB.out)
                  clear HO_357000
                  clear BK349
                  clear BK350
                  clear BK351
                  clear BK356
                  clear BK361
                  clear BK363
                  clear HB
                  have HO_357000 := n0_
                  have BK349 := n1_
                  have BK350 := n2_
                  have BK351 := n3_
                  have BK356 := n4_
                  have BK361 := n5_
                  have BK363 := n6_
                  have HB := n7_
                  clear n0_ n1_ n2_ n3_ n4_ n5_ n6_ n7_
                  refine start_ (n := 18) (S := fun w' => w'.cell? ⟨gb361, 0, none⟩ = some (.string ((rd_T64 l0_1 x10_1).f0.f0)) ∧ w'.cell? ⟨gb361, 1, none⟩ = some (.int .i64 ((rd_T64 l0_1 x10_1).f0.f1)) ∧ w'.cell? ⟨gb361, 2, none⟩ = some (.int .i64 ((rd_T64 l0_1 x10_1).f0.f2)) ∧ w'.cell? ⟨gb361, 3, none⟩ = some (.int .i64 ((rd_T64 l0_1 x10_1).f0.f3)) ∧ w'.cell? ⟨gb361, 4, none⟩ = some (.int .i64 ((rd_T64 l0_1 x10_1).f0.f4)) ∧ w'.cell? ⟨gb361, 5, none⟩ = some (.int .i64 ((rd_T64 l0_1 x10_1).f1)) ∧ w'.cell? ⟨gb361, 6, none⟩ = some (.int .i64 ((rd_T64 l0_1 x10_1).f2)) ∧ w'.cell? ⟨gb361, 7, none⟩ = some (.bool ((rd_T64 l0_1 x10_1).f3)) ∧ w'.cell? ⟨gb361, 8, none⟩ = some (.string ((rd_T64 l0_1 x10_1).f4.f0)) ∧ w'.cell? ⟨gb361, 9, none⟩ = some (.int .i64 ((rd_T64 l0_1 x10_1).f4.f1)) ∧ w'.cell? ⟨gb361, 10, none⟩ = some (.int .i64 ((rd_T64 l0_1 x10_1).f4.f2)) ∧ w'.cell? ⟨gb361, 11, none⟩ = some (.int .i64 ((rd_T64 l0_1 x10_1).f4.f3)) ∧ w'.cell? ⟨gb361, 12, none⟩ = some (.int .i64 ((rd_T64 l0_1 x10_1).f4.f4))) (ds := []) (bsq 0 18) (by kernel_rfl) rfl rfl ⟨(blk_cell BK361.out 0).trans rfl, (blk_cell BK361.out 1).trans rfl, (blk_cell BK361.out 2).trans rfl, (blk_cell BK361.out 3).trans rfl, (blk_cell BK361.out 4).trans rfl, (blk_cell BK361.out 5).trans rfl, (blk_cell BK361.out 6).trans rfl, (blk_cell BK361.out 7).trans rfl, (blk_cell BK361.out 8).trans rfl, (blk_cell BK361.out 9).trans rfl, (blk_cell BK361.out 10).trans rfl, (blk_cell BK361.out 11).trans rfl, (blk_cell BK361.out 12).trans rfl⟩ (fun hHeld => ?_); refine with_tabW signalbenchlaw44_TrigautoHolds.tab19 signalbenchlaw44_TrigautoHolds.bits19 (fun HT_ HW_ => ?_)
                  generalize wc.drew = w126 at HO_357000 BK349 BK350 BK351 BK356 BK361 BK363 HB hHeld ⊢
                  refine pure_ (i := 0) (N := some 83) (v := ?_) (a' := ?_) (bsq 1 17) rfl rfl (any_of HT_.out (by kernel_rfl)) (fun _ _ _ h => h) (Or.inl ⟨by rfl, ?_⟩) ?_ ?_
                  rotate_left
                  ·
                   intro w'
                   go_simp
                   with_reducible rfl
                  rotate_left
                  ·
                   simp only [Act.put, List.setIfInBounds_toArray, List.set_cons_zero, List.set_cons_succ, i64_w, i32_w]
                   rfl
                  refine pure_ (i := 1) (N := some 84) (v := ?_) (a' := ?_) (bsq 2 16) rfl rfl (any_of HT_.out (by kernel_rfl)) (fun _ _ _ h => h) (Or.inl ⟨by rfl, ?_⟩) ?_ ?_
                  rotate_left
                  ·
                   intro w'
                   go_simp
                   with_reducible rfl
                  rotate_left
                  ·
                   simp only [Act.put, List.setIfInBounds_toArray, List.set_cons_zero, List.set_cons_succ, i64_w, i32_w]
                   rfl
                  refine pure_ (i := 2) (N := some 85) (v := ?_) (a' := ?_) (bsq 3 15) rfl rfl (any_of HT_.out (by kernel_rfl)) (fun _ _ _ h => h) (Or.inl ⟨by rfl, ?_⟩) ?_ ?_
                  rotate_left
                  ·
                   intro w'
                   go_simp
                   with_reducible rfl
                  rotate_left
                  ·
                   simp only [Act.put, List.setIfInBounds_toArray, List.set_cons_zero, List.set_cons_succ, i64_w, i32_w]
                   rfl
                  refine pure_ (i := 3) (N := some 86) (v := ?_) (a' := ?_) (bsq 4 14) rfl rfl (any_of HT_.out (by kernel_rfl)) (fun _ _ _ h => h) (Or.inl ⟨by rfl, ?_⟩) ?_ ?_
                  rotate_left
                  ·
                   intro w'
                   go_simp
                   with_reducible rfl
                  rotate_left
                  ·
                   simp only [Act.put, List.setIfInBounds_toArray, List.set_cons_zero, List.set_cons_succ, i64_w, i32_w]
                   rfl
                  refine take_ (i := 4) (N := some 87) (v := ?_) (a' := ?_) (bsq 5 13) rfl rfl (take_ofW HT_.out HW_.out (by kernel_rfl)) (fun _ _ _ h => h) (Or.inl ⟨by rfl, ?_⟩) hHeld ?_ ?_
                  rotate_left
                  ·
                   rintro w' ⟨s0, s1, s2, s3, s4, s5, s6, s7, s8, s9, s10, s11, s12⟩
                   go_simp
                   with_reducible rfl
                  rotate_left
                  ·
                   simp only [Act.put, List.setIfInBounds_toArray, List.set_cons_zero, List.set_cons_succ, i64_w, i32_w]
                   rfl
                  refine pure_ (i := 5) (N := some 88) (v := ?_) (a' := ?_) (bsq 6 12) rfl rfl (any_of HT_.out (by kernel_rfl)) (fun _ _ _ h => h) (Or.inl ⟨by rfl, ?_⟩) ?_ ?_
                  rotate_left
                  ·
                   intro w'
                   go_simp
                   with_reducible rfl
                  rotate_left
                  ·
                   simp only [Act.put, List.setIfInBounds_toArray, List.set_cons_zero, List.set_cons_succ, i64_w, i32_w]
                   rfl
                  refine pure_ (i := 6) (N := some 89) (v := ?_) (a' := ?_) (bsq 7 11) rfl rfl (any_of HT_.out (by kernel_rfl)) (fun _ _ _ h => h) (Or.inl ⟨by rfl, ?_⟩) ?_ ?_
                  rotate_left
                  ·
                   intro w'
                   go_simp
                   with_reducible rfl
                  rotate_left
                  ·
                   simp only [Act.put, List.setIfInBounds_toArray, List.set_cons_zero, List.set_cons_succ, i64_w, i32_w]
                   rfl
                  refine pure_ (i := 7) (N := some 90) (v := undef) (a' := ?_) (bsq 8 10) rfl rfl (any_of HT_.out (by kernel_rfl)) (fun _ _ _ h => h) (Or.inr ⟨by rfl, rfl⟩) ?_ ?_
                  rotate_left
                  ·
                   simp only [Act.put, List.setIfInBounds_toArray, List.set_cons_zero, List.set_cons_succ, i64_w, i32_w]
                   rfl
                  refine pure_ (i := 8) (N := some 91) (v := undef) (a' := ?_) (bsq 9 9) rfl rfl (any_of HT_.out (by kernel_rfl)) (fun _ _ _ h => h) (Or.inr ⟨by rfl, rfl⟩) ?_ ?_
                  rotate_left
                  ·
                   simp only [Act.put, List.setIfInBounds_toArray, List.set_cons_zero, List.set_cons_succ, i64_w, i32_w]
                   rfl
                  refine pure_ (i := 9) (N := some 92) (v := undef) (a' := ?_) (bsq 10 8) rfl rfl (any_of HT_.out (by kernel_rfl)) (fun _ _ _ h => h) (Or.inr ⟨by rfl, rfl⟩) ?_ ?_
                  rotate_left
                  ·
                   simp only [Act.put, List.setIfInBounds_toArray, List.set_cons_zero, List.set_cons_succ, i64_w, i32_w]
                   rfl
                  refine pure_ (i := 10) (N := some 93) (v := undef) (a' := ?_) (bsq 11 7) rfl rfl (any_of HT_.out (by kernel_rfl)) (fun _ _ _ h => h) (Or.inr ⟨by rfl, rfl⟩) ?_ ?_
                  rotate_left
                  ·
                   simp only [Act.put, List.setIfInBounds_toArray, List.set_cons_zero, List.set_cons_succ, i64_w, i32_w]
                   rfl
                  refine pure_ (i := 11) (N := some 94) (v := undef) (a' := ?_) (bsq 12 6) rfl rfl (any_of HT_.out (by kernel_rfl)) (fun _ _ _ h => h) (Or.inr ⟨by rfl, rfl⟩) ?_ ?_
                  rotate_left
                  ·
                   simp only [Act.put, List.setIfInBounds_toArray, List.set_cons_zero, List.set_cons_succ, i64_w, i32_w]
                   rfl
                  refine pure_ (i := 12) (N := some 95) (v := undef) (a' := ?_) (bsq 13 5) rfl rfl (any_of HT_.out (by kernel_rfl)) (fun _ _ _ h => h) (Or.inr ⟨by rfl, rfl⟩) ?_ ?_
                  rotate_left
                  ·
                   simp only [Act.put, List.setIfInBounds_toArray, List.set_cons_zero, List.set_cons_succ, i64_w, i32_w]
                   rfl
                  refine pure_ (i := 13) (N := some 96) (v := undef) (a' := ?_) (bsq 14 4) rfl rfl (any_of HT_.out (by kernel_rfl)) (fun _ _ _ h => h) (Or.inr ⟨by rfl, rfl⟩) ?_ ?_
                  rotate_left
                  ·
                   simp only [Act.put, List.setIfInBounds_toArray, List.set_cons_zero, List.set_cons_succ, i64_w, i32_w]
                   rfl
                  refine pure_ (i := 14) (N := some 97) (v := undef) (a' := ?_) (bsq 15 3) rfl rfl (any_of HT_.out (by kernel_rfl)) (fun _ _ _ h => h) (Or.inr ⟨by rfl, rfl⟩) ?_ ?_
                  rotate_left
                  ·
                   simp only [Act.put, List.setIfInBounds_toArray, List.set_cons_zero, List.set_cons_succ, i64_w, i32_w]
                   rfl
                  refine pure_ (i := 15) (N := some 98) (v := undef) (a' := ?_) (bsq 16 2) rfl rfl (any_of HT_.out (by kernel_rfl)) (fun _ _ _ h => h) (Or.inr ⟨by rfl, rfl⟩) ?_ ?_
                  rotate_left
                  ·
                   simp only [Act.put, List.setIfInBounds_toArray, List.set_cons_zero, List.set_cons_succ, i64_w, i32_w]
                   rfl
                  refine pure_ (i := 16) (N := some 99) (v := undef) (a' := ?_) (bsq 17 1) rfl rfl (any_of HT_.out (by kernel_rfl)) (fun _ _ _ h => h) (Or.inr ⟨by rfl, rfl⟩) ?_ ?_
                  rotate_left
                  ·
                   simp only [Act.put, List.setIfInBounds_toArray, List.set_cons_zero, List.set_cons_succ, i64_w, i32_w]
                   rfl
                  refine pure_ (i := 17) (N := some 100) (v := ?_) (a' := ?_) (bsq 18 0) rfl rfl (any_of HT_.out (by kernel_rfl)) (fun _ _ _ h => h) (Or.inl ⟨by rfl, ?_⟩) ?_ ?_
                  rotate_left
                  ·
                   intro w'
                   go_simp
                   with_reducible rfl
                  rotate_left
                  ·
                   simp only [Act.put, List.setIfInBounds_toArray, List.set_cons_zero, List.set_cons_succ, i64_w, i32_w]
                   rfl
                  refine done_ (done_of HT_.out (by kernel_rfl)) ?_
                  try go_wp2
                  go_roundg kj68
                  case measure => have := HK1.out; have := HK2.out; have := HJ68.out; omega
                  case rel => exact ⟨(wrap64 (x9_2 + 1)), (wrap64 (x12_2 + 1)), (by first | rfl | (simp; done) | (simp [*]; done)), (by first | rfl | (simp; done) | (simp [*]; done)), H', ⟨by have := HK1.out; have := HK2.out; have := HJ68.out; omega⟩, ⟨by (with_reducible repeat (first | apply Kd.R_alloc | apply Kd.R_drewN | apply Kd.R_drew)); exact Kd.R_mono HO_357000.out (fun _ hk => trivial)⟩, ⟨bg BK349.out⟩, ⟨bg BK350.out⟩, ⟨bg BK351.out⟩, ⟨bg BK356.out⟩, ⟨bg BK361.out⟩, ⟨bs HB.out⟩⟩
                ·
                 rw [if_neg c115] at H
                 have c115b0 : decide (0 < x9_2) = false := decide_eq_false c115
                 clear c115
                 have H' := Aside0.mk H
                 clear H
                 try go_wp2
                 have n0_ := Aside0.mk (Kd.R_drew HO_357000.out)
                 have n1_ := Aside0.mk (blk_drew BK349.out)
                 have n2_ := Aside0.mk (blk_drew BK350.out)
                 have n3_ := Aside0.mk (blk_drew BK351.out)
                 have n4_ := Aside0.mk (blk_drew BK356.out)
                 have n5_ := Aside0.mk (blk_drew BK361.out)
                 have n6_ := Aside0.mk (blk_drew BK363.out)
                 have n7_ := Aside0.mk (below_drew1 HB.out)
                 clear HO_357000
                 clear BK349
                 clear BK350
                 clear BK351
                 clear BK356
                 clear BK361
                 clear BK363
                 clear HB
                 have HO_357000 := n0_
                 have BK349 := n1_
                 have BK350 := n2_
                 have BK351 := n3_
                 have BK356 := n4_
                 have BK361 := n5_
                 have BK363 := n6_
                 have HB := n7_
                 clear n0_ n1_ n2_ n3_ n4_ n5_ n6_ n7_
                 refine start_ (n := 18) (S := fun w' => True) (ds := []) (bsq 0 18) (by kernel_rfl) rfl rfl trivial (fun hHeld => ?_); refine with_tabW signalbenchlaw44_TrigautoHolds.tab19 signalbenchlaw44_TrigautoHolds.bits19 (fun HT_ HW_ => ?_)
                 generalize wc.drew = w127 at HO_357000 BK349 BK350 BK351 BK356 BK361 BK363 HB hHeld ⊢
                 refine pure_ (i := 0) (N := some 83) (v := ?_) (a' := ?_) (bsq 1 17) rfl rfl (any_of HT_.out (by kernel_rfl)) (fun _ _ _ h => h) (Or.inl ⟨by rfl, ?_⟩) ?_ ?_
                 rotate_left
                 ·
                  intro w'
                  go_simp
                  with_reducible rfl
                 rotate_left
                 ·
                  simp only [Act.put, List.setIfInBounds_toArray, List.set_cons_zero, List.set_cons_succ, i64_w, i32_w]
                  rfl
                 refine pure_ (i := 1) (N := some 84) (v := ?_) (a' := ?_) (bsq 2 16) rfl rfl (any_of HT_.out (by kernel_rfl)) (fun _ _ _ h => h) (Or.inl ⟨by rfl, ?_⟩) ?_ ?_
                 rotate_left
                 ·
                  intro w'
                  go_simp
                  with_reducible rfl
                 rotate_left
                 ·
                  simp only [Act.put, List.setIfInBounds_toArray, List.set_cons_zero, List.set_cons_succ, i64_w, i32_w]
                  rfl
                 refine pure_ (i := 2) (N := some 85) (v := ?_) (a' := ?_) (bsq 3 15) rfl rfl (any_of HT_.out (by kernel_rfl)) (fun _ _ _ h => h) (Or.inl ⟨by rfl, ?_⟩) ?_ ?_
                 rotate_left
                 ·
                  intro w'
                  go_simp
                  with_reducible rfl
                 rotate_left
                 ·
                  simp only [Act.put, List.setIfInBounds_toArray, List.set_cons_zero, List.set_cons_succ, i64_w, i32_w]
                  rfl
                 refine pure_ (i := 3) (N := some 86) (v := undef) (a' := ?_) (bsq 4 14) rfl rfl (any_of HT_.out (by kernel_rfl)) (fun _ _ _ h => h) (Or.inr ⟨by rfl, rfl⟩) ?_ ?_
                 rotate_left
                 ·
                  simp only [Act.put, List.setIfInBounds_toArray, List.set_cons_zero, List.set_cons_succ, i64_w, i32_w]
                  rfl
                 refine pure_ (i := 4) (N := some 87) (v := undef) (a' := ?_) (bsq 5 13) rfl rfl (any_of HT_.out (by kernel_rfl)) (fun _ _ _ h => h) (Or.inr ⟨by rfl, rfl⟩) ?_ ?_
                 rotate_left
                 ·
                  simp only [Act.put, List.setIfInBounds_toArray, List.set_cons_zero, List.set_cons_succ, i64_w, i32_w]
                  rfl
                 refine pure_ (i := 5) (N := some 88) (v := ?_) (a' := ?_) (bsq 6 12) rfl rfl (any_of HT_.out (by kernel_rfl)) (fun _ _ _ h => h) (Or.inl ⟨by rfl, ?_⟩) ?_ ?_
                 rotate_left
                 ·
                  intro w'
                  go_simp
                  with_reducible rfl
                 rotate_left
                 ·
                  simp only [Act.put, List.setIfInBounds_toArray, List.set_cons_zero, List.set_cons_succ, i64_w, i32_w]
                  rfl
                 refine pure_ (i := 6) (N := some 89) (v := ?_) (a' := ?_) (bsq 7 11) rfl rfl (any_of HT_.out (by kernel_rfl)) (fun _ _ _ h => h) (Or.inl ⟨by rfl, ?_⟩) ?_ ?_
                 rotate_left
                 ·
                  intro w'
                  go_simp
                  with_reducible rfl
                 rotate_left
                 ·
                  simp only [Act.put, List.setIfInBounds_toArray, List.set_cons_zero, List.set_cons_succ, i64_w, i32_w]
                  rfl
                 refine pure_ (i := 7) (N := some 90) (v := undef) (a' := ?_) (bsq 8 10) rfl rfl (any_of HT_.out (by kernel_rfl)) (fun _ _ _ h => h) (Or.inr ⟨by rfl, rfl⟩) ?_ ?_
                 rotate_left
                 ·
                  simp only [Act.put, List.setIfInBounds_toArray, List.set_cons_zero, List.set_cons_succ, i64_w, i32_w]
                  rfl
                 refine pure_ (i := 8) (N := some 91) (v := undef) (a' := ?_) (bsq 9 9) rfl rfl (any_of HT_.out (by kernel_rfl)) (fun _ _ _ h => h) (Or.inr ⟨by rfl, rfl⟩) ?_ ?_
                 rotate_left
                 ·
                  simp only [Act.put, List.setIfInBounds_toArray, List.set_cons_zero, List.set_cons_succ, i64_w, i32_w]
                  rfl
                 refine pure_ (i := 9) (N := some 92) (v := undef) (a' := ?_) (bsq 10 8) rfl rfl (any_of HT_.out (by kernel_rfl)) (fun _ _ _ h => h) (Or.inr ⟨by rfl, rfl⟩) ?_ ?_
                 rotate_left
                 ·
                  simp only [Act.put, List.setIfInBounds_toArray, List.set_cons_zero, List.set_cons_succ, i64_w, i32_w]
                  rfl
                 refine pure_ (i := 10) (N := some 93) (v := undef) (a' := ?_) (bsq 11 7) rfl rfl (any_of HT_.out (by kernel_rfl)) (fun _ _ _ h => h) (Or.inr ⟨by rfl, rfl⟩) ?_ ?_
                 rotate_left
                 ·
                  simp only [Act.put, List.setIfInBounds_toArray, List.set_cons_zero, List.set_cons_succ, i64_w, i32_w]
                  rfl
                 refine pure_ (i := 11) (N := some 94) (v := undef) (a' := ?_) (bsq 12 6) rfl rfl (any_of HT_.out (by kernel_rfl)) (fun _ _ _ h => h) (Or.inr ⟨by rfl, rfl⟩) ?_ ?_
                 rotate_left
                 ·
                  simp only [Act.put, List.setIfInBounds_toArray, List.set_cons_zero, List.set_cons_succ, i64_w, i32_w]
                  rfl
                 refine pure_ (i := 12) (N := some 95) (v := undef) (a' := ?_) (bsq 13 5) rfl rfl (any_of HT_.out (by kernel_rfl)) (fun _ _ _ h => h) (Or.inr ⟨by rfl, rfl⟩) ?_ ?_
                 rotate_left
                 ·
                  simp only [Act.put, List.setIfInBounds_toArray, List.set_cons_zero, List.set_cons_succ, i64_w, i32_w]
                  rfl
                 refine pure_ (i := 13) (N := some 96) (v := undef) (a' := ?_) (bsq 14 4) rfl rfl (any_of HT_.out (by kernel_rfl)) (fun _ _ _ h => h) (Or.inr ⟨by rfl, rfl⟩) ?_ ?_
                 rotate_left
                 ·
                  simp only [Act.put, List.setIfInBounds_toArray, List.set_cons_zero, List.set_cons_succ, i64_w, i32_w]
                  rfl
                 refine pure_ (i := 14) (N := some 97) (v := undef) (a' := ?_) (bsq 15 3) rfl rfl (any_of HT_.out (by kernel_rfl)) (fun _ _ _ h => h) (Or.inr ⟨by rfl, rfl⟩) ?_ ?_
                 rotate_left
                 ·
                  simp only [Act.put, List.setIfInBounds_toArray, List.set_cons_zero, List.set_cons_succ, i64_w, i32_w]
                  rfl
                 refine pure_ (i := 15) (N := some 98) (v := undef) (a' := ?_) (bsq 16 2) rfl rfl (any_of HT_.out (by kernel_rfl)) (fun _ _ _ h => h) (Or.inr ⟨by rfl, rfl⟩) ?_ ?_
                 rotate_left
                 ·
                  simp only [Act.put, List.setIfInBounds_toArray, List.set_cons_zero, List.set_cons_succ, i64_w, i32_w]
                  rfl
                 refine pure_ (i := 16) (N := some 99) (v := undef) (a' := ?_) (bsq 17 1) rfl rfl (any_of HT_.out (by kernel_rfl)) (fun _ _ _ h => h) (Or.inr ⟨by rfl, rfl⟩) ?_ ?_
                 rotate_left
                 ·
                  simp only [Act.put, List.setIfInBounds_toArray, List.set_cons_zero, List.set_cons_succ, i64_w, i32_w]
                  rfl
                 refine pure_ (i := 17) (N := some 100) (v := ?_) (a' := ?_) (bsq 18 0) rfl rfl (any_of HT_.out (by kernel_rfl)) (fun _ _ _ h => h) (Or.inl ⟨by rfl, ?_⟩) ?_ ?_
                 rotate_left
                 ·
                  intro w'
                  go_simp
                  with_reducible rfl
                 rotate_left
                 ·
                  simp only [Act.put, List.setIfInBounds_toArray, List.set_cons_zero, List.set_cons_succ, i64_w, i32_w]
                  rfl
                 refine done_ (done_of HT_.out (by kernel_rfl)) ?_
                 try go_wp2
                 go_roundg kj68
                 case measure => have := HK1.out; have := HK2.out; have := HJ68.out; omega
                 case rel => exact ⟨(wrap64 (x9_2 + 1)), (wrap64 (x12_2 + 1)), (by first | rfl | (simp; done) | (simp [*]; done)), (by first | rfl | (simp; done) | (simp [*]; done)), H', ⟨by have := HK1.out; have := HK2.out; have := HJ68.out; omega⟩, ⟨by (with_reducible repeat (first | apply Kd.R_alloc | apply Kd.R_drewN | apply Kd.R_drew)); exact Kd.R_mono HO_357000.out (fun _ hk => trivial)⟩, ⟨bg BK349.out⟩, ⟨bg BK350.out⟩, ⟨bg BK351.out⟩, ⟨bg BK356.out⟩, ⟨bg BK361.out⟩, ⟨bs HB.out⟩⟩
           ·
            rw [if_neg c45] at H
            exact absurd H (by simp)
          ·
           rw [if_neg c44] at H
           exact absurd H (by simp)
        ·
         rw [if_neg c33] at H
         have c33b0 : decide (x12_2 < ((rd_T64 l0_1 x10_1).f1)) = false := decide_eq_false c33
         clear c33
         have H' := Aside0.mk H
         clear H
         have hnb128 := NB361_349.out
         have hnc128 := NB349_361.out
         have hnb129 := NB361_350.out
         have hnc129 := NB350_361.out
         have hnb130 := NB361_351.out
         have hnc130 := NB351_361.out
         have hnb131 := NB361_356.out
         have hnc131 := NB356_361.out
         obtain ⟨hcz132_0, hcz132_1, hcz132_2, hcz132_3, hcz132_4, hcz132_5, hcz132_6, hcz132_7, hcz132_8, hcz132_9, hcz132_10, hcz132_11, hcz132_12⟩ := bc13 BK361.out
         obtain ⟨hfz132_0, hfz132_1, hfz132_2, hfz132_3, hfz132_4, hfz132_5, hfz132_6, hfz132_7, hfz132_8, hfz132_9, hfz132_10, hfz132_11, hfz132_12⟩ := bf13 BK361.out
         go_wp2
         go_roundg k2
         case measure => have := HK1.out; have := HK2.out; omega
         case rel => exact ⟨(x9_2), (wrap64 (x10_1 + 1)), (by first | rfl | (simp; done) | (simp [*]; done)), (by first | rfl | (simp; done) | (simp [*]; done)), H', ⟨by have := HK1.out; have := HK2.out; omega⟩, ⟨by (with_reducible repeat (first | apply Kd.R_alloc | apply Kd.R_drewN | apply Kd.R_drew)); exact HO_357000.out⟩, ⟨bg BK349.out⟩, ⟨bg BK350.out⟩, ⟨bg BK351.out⟩, ⟨bg BK356.out⟩, ⟨bs HB.out⟩⟩
     ·
      rw [if_neg c22] at H
      exact absurd H (by simp)
    ·
     rw [if_neg c21] at H
     have c21b0 : decide (x10_1 < (l0_1.length : Int)) = false := decide_eq_false c21
     clear c21
     by_cases c133 : x9_1 = (t352.length : Int)
     ·
      rw [if_pos c133] at H
      have c133b0 : (x9_1 == (t352.length : Int)) = true := beq_iff_eq.mpr c133
      have c133b1 : (x9_1 != (t352.length : Int)) = false := bne_eq_false_iff_eq.mpr c133
      clear c133
      replace H := Option.bind_eq_some_iff.mp H
      obtain ⟨t358, A1340, H⟩ := H
      replace H : (if t358 = x9_1 then ((signalbenchlaw44_awake.f).bind fun t359 => (some t359)) else (some false)) = some r := H
      have A134 := Aside0.mk A1340
      clear A1340
      by_cases c135 : t358 = x9_1
      ·
       rw [if_pos c135] at H
       have c135b0 : (t358 == x9_1) = true := beq_iff_eq.mpr c135
       have c135b1 : (t358 != x9_1) = false := bne_eq_false_iff_eq.mpr c135
       clear c135
       replace H := Option.bind_eq_some_iff.mp H
       obtain ⟨t359, A1360, H⟩ := H
       replace H : (some t359) = some r := H
       have A136 := Aside0.mk A1360
       clear A1360
       obtain rfl := Option.some.inj H
       have hnb137 := NB349_350.out
       have hnc137 := NB350_349.out
       have hnb138 := NB349_351.out
       have hnc138 := NB351_349.out
       have hnb139 := NB349_356.out
       have hnc139 := NB356_349.out
       obtain ⟨hcz140_0, hcz140_1⟩ := bc2 BK349.out
       obtain ⟨hfz140_0, hfz140_1⟩ := bf2 BK349.out
       have hnb141 := NB356_350.out
       have hnc141 := NB350_356.out
       have hnb142 := NB356_351.out
       have hnc142 := NB351_356.out
       have hcz143_0 : wr.cell? ⟨gb356, 0, none⟩ = some (.slice Ao16 t352.length co16) := (blk_cell BK356.out 0).trans rfl
       have hfz143_0 := blk_frozen BK356.out 0
       go_wp2_with (first | (go_at_call 22; (with_reducible refine (trigauto_Memory.calls _ _ t352 t358 _ ?side1 ?side2 A134.out).mono ?_); (case side1 => repeat (first | exact (Kd.R_reads' HO_357000.out).2.2 | (with_reducible refine Kd.C_alloc ?_ _) | (with_reducible refine Kd.C_drewN ?_ _) | (with_reducible refine Kd.C_drew ?_))); (case side2 => exact (Kd.R_reads' HO_357000.out).2.1); rintro e w144 ⟨rfl, hb⟩; have n0_ := Aside0.mk (Kd.R_below (by (with_reducible repeat (first | apply Kd.R_alloc | apply Kd.R_drewN | apply Kd.R_drew)); exact HO_357000.out) hb); have n1_ := Aside0.mk (blk_below (bg BK349.out) hb); have n2_ := Aside0.mk (blk_below (bg BK350.out) hb); have n3_ := Aside0.mk (blk_below (bg BK351.out) hb); have n4_ := Aside0.mk (blk_below (bg BK356.out) hb); have n5_ := Aside0.mk (below_step (bs HB.out) hb); clear HO_357000; clear BK349; clear BK350; clear BK351; clear BK356; clear HB; have HO_357000 := n0_; have BK349 := n1_; have BK350 := n2_; have BK351 := n3_; have BK356 := n4_; have HB := n5_; clear n0_ n1_ n2_ n3_ n4_ n5_; (try clear hb); (try clear hb2); (try clear hk); (try clear hi)) | (go_at_call 19; (with_reducible refine (signalbenchlaw44_awake.calls  t359 _ A136.out).mono ?_); rintro e w145 ⟨rfl, hb⟩; have n0_ := Aside0.mk (Kd.R_below (by (with_reducible repeat (first | apply Kd.R_alloc | apply Kd.R_drewN | apply Kd.R_drew)); exact HO_357000.out) hb); have n1_ := Aside0.mk (blk_below (bg BK349.out) hb); have n2_ := Aside0.mk (blk_below (bg BK350.out) hb); have n3_ := Aside0.mk (blk_below (bg BK351.out) hb); have n4_ := Aside0.mk (blk_below (bg BK356.out) hb); have n5_ := Aside0.mk (below_step (bs HB.out) hb); clear HO_357000; clear BK349; clear BK350; clear BK351; clear BK356; clear HB; have HO_357000 := n0_; have BK349 := n1_; have BK350 := n2_; have BK351 := n3_; have BK356 := n4_; have HB := n5_; clear n0_ n1_ n2_ n3_ n4_ n5_; (try clear hb); (try clear hb2); (try clear hk); (try clear hi)))
       go_ret
       exact ⟨by first | rfl | (simp [errW_none, errW_some] <;> rfl) | (simp [*, errW_none, errW_some] <;> rfl), bs HB.out⟩
      ·
       rw [if_neg c135] at H
       have c135b0 : (t358 == x9_1) = false := beq_eq_false_iff_ne.mpr c135
       have c135b1 : (t358 != x9_1) = true := bne_iff_ne.mpr c135
       obtain rfl := Option.some.inj H
       have hnb146 := NB349_350.out
       have hnc146 := NB350_349.out
       have hnb147 := NB349_351.out
       have hnc147 := NB351_349.out
       have hnb148 := NB349_356.out
       have hnc148 := NB356_349.out
       obtain ⟨hcz149_0, hcz149_1⟩ := bc2 BK349.out
       obtain ⟨hfz149_0, hfz149_1⟩ := bf2 BK349.out
       have hnb150 := NB356_350.out
       have hnc150 := NB350_356.out
       have hnb151 := NB356_351.out
       have hnc151 := NB351_356.out
       have hcz152_0 : wr.cell? ⟨gb356, 0, none⟩ = some (.slice Ao16 t352.length co16) := (blk_cell BK356.out 0).trans rfl
       have hfz152_0 := blk_frozen BK356.out 0
       go_wp2_with (first | (go_at_call 22; (with_reducible refine (trigauto_Memory.calls _ _ t352 t358 _ ?side1 ?side2 A134.out).mono ?_); (case side1 => repeat (first | exact (Kd.R_reads' HO_357000.out).2.2 | (with_reducible refine Kd.C_alloc ?_ _) | (with_reducible refine Kd.C_drewN ?_ _) | (with_reducible refine Kd.C_drew ?_))); (case side2 => exact (Kd.R_reads' HO_357000.out).2.1); rintro e w153 ⟨rfl, hb⟩; have n0_ := Aside0.mk (Kd.R_below (by (with_reducible repeat (first | apply Kd.R_alloc | apply Kd.R_drewN | apply Kd.R_drew)); exact HO_357000.out) hb); have n1_ := Aside0.mk (blk_below (bg BK349.out) hb); have n2_ := Aside0.mk (blk_below (bg BK350.out) hb); have n3_ := Aside0.mk (blk_below (bg BK351.out) hb); have n4_ := Aside0.mk (blk_below (bg BK356.out) hb); have n5_ := Aside0.mk (below_step (bs HB.out) hb); clear HO_357000; clear BK349; clear BK350; clear BK351; clear BK356; clear HB; have HO_357000 := n0_; have BK349 := n1_; have BK350 := n2_; have BK351 := n3_; have BK356 := n4_; have HB := n5_; clear n0_ n1_ n2_ n3_ n4_ n5_; (try clear hb); (try clear hb2); (try clear hk); (try clear hi)))
       go_ret
       exact ⟨by first | rfl | (simp [errW_none, errW_some] <;> rfl) | (simp [*, errW_none, errW_some] <;> rfl), bs HB.out⟩
     ·
      rw [if_neg c133] at H
      have c133b0 : (x9_1 == (t352.length : Int)) = false := beq_eq_false_iff_ne.mpr c133
      have c133b1 : (x9_1 != (t352.length : Int)) = true := bne_iff_ne.mpr c133
      obtain rfl := Option.some.inj H
      have hnb154 := NB349_350.out
      have hnc154 := NB350_349.out
      have hnb155 := NB349_351.out
      have hnc155 := NB351_349.out
      have hnb156 := NB349_356.out
      have hnc156 := NB356_349.out
      obtain ⟨hcz157_0, hcz157_1⟩ := bc2 BK349.out
      obtain ⟨hfz157_0, hfz157_1⟩ := bf2 BK349.out
      have hnb158 := NB356_350.out
      have hnc158 := NB350_356.out
      have hnb159 := NB356_351.out
      have hnc159 := NB351_356.out
      have hcz160_0 : wr.cell? ⟨gb356, 0, none⟩ = some (.slice Ao16 t352.length co16) := (blk_cell BK356.out 0).trans rfl
      have hfz160_0 := blk_frozen BK356.out 0
      go_wp2
      go_ret
      exact ⟨by first | rfl | (simp [errW_none, errW_some] <;> rfl) | (simp [*, errW_none, errW_some] <;> rfl), bs HB.out⟩
 ·
  rw [if_neg c5] at H
  have c5b0 : (t355 == 0) = false := beq_eq_false_iff_ne.mpr c5
  have c5b1 : (t355 != 0) = true := bne_iff_ne.mpr c5
  by_cases c161 : (t352.length : Int) = 0
  ·
   rw [if_pos c161] at H
   have c161b0 : ((t352.length : Int) == 0) = true := beq_iff_eq.mpr c161
   have c161b1 : ((t352.length : Int) != 0) = false := bne_eq_false_iff_eq.mpr c161
   clear c161
   replace H := Option.bind_eq_some_iff.mp H
   obtain ⟨t357, A1620, H⟩ := H
   replace H : (some t357) = some r := H
   have A162 := Aside0.mk A1620
   clear A1620
   obtain rfl := Option.some.inj H
   go_enter Try.func14, Try.ntmps14
   go_wp2_with (first | ((with_reducible refine gate_dst (N := 3) rfl ?_); refine box_event ?hg (N := 3) ?hd (cs := #[.string a0_0, .slice A0_1 l0_1.length c0_1]) (t := 24) ?hr ?_; (case hd => rfl); (case hg => rfl); (case hr => first | (go_simp; done) | (go_simp; rfl)); intro gb349 hg w163 hbox hb; have n0_ := Aside0.mk (below_step (bs HB.out) hb); have n1_ := Aside0.mk (hbox); have n2_ := Aside0.mk ((by rw [hg]; exact (below_size (bs HB.out)) : w.heap.size ≤ gb349)); have n3_ := n2_; clear HB; have HB := n0_; have BK349 := n1_; have GW349 := n2_; have GE349 := n3_; clear n0_ n1_ n2_ n3_; clear hb hbox hg) | ((with_reducible refine gate_dst (N := 4) rfl ?_); refine box_event ?hg (N := 4) ?hd (cs := #[.slice A1_0 l1_0.length c1_0, .slice A1_1 l1_1.length c1_1]) (t := 28) ?hr ?_; (case hd => rfl); (case hg => rfl); (case hr => first | (go_simp; done) | (go_simp; rfl)); intro gb350 hg w164 hbox hb; have n0_ := Aside0.mk (blk_below (bg BK349.out) hb); have n1_ := Aside0.mk (below_step (bs HB.out) hb); have n2_ := Aside0.mk (hbox); have n3_ := Aside0.mk ((by rw [hg]; exact (below_size (bs HB.out)) : w.heap.size ≤ gb350)); have n4_ := n3_; have n5_ := Aside0.mk ((by rw [hg]; exact Nat.ne_of_lt (blk_lt (bg BK349.out)) : gb349 ≠ gb350)); have n6_ := Aside0.mk ((by rw [hg]; exact Nat.ne_of_gt (blk_lt (bg BK349.out)) : gb350 ≠ gb349)); clear BK349; clear HB; have BK349 := n0_; have HB := n1_; have BK350 := n2_; have GW350 := n3_; have GE350 := n4_; have NB349_350 := n5_; have NB350_349 := n6_; clear n0_ n1_ n2_ n3_ n4_ n5_ n6_; clear hb hbox hg) | ((with_reducible refine gate_dst (N := 5) rfl ?_); refine box_event ?hg (N := 5) ?hd (cs := #[.int .i64 a2_0, .int .i64 a2_1, .int .i64 a2_2, .int .i64 a2_3, .int .i64 a2_4, .int .i64 a2_5, .int .i64 a2_6, .string a2_7, .int .i64 a2_8]) (t := 46) ?hr ?_; (case hd => rfl); (case hg => rfl); (case hr => first | (go_simp; done) | (go_simp; rfl)); intro gb351 hg w165 hbox hb; have n0_ := Aside0.mk (blk_below (bg BK349.out) hb); have n1_ := Aside0.mk (blk_below (bg BK350.out) hb); have n2_ := Aside0.mk (below_step (bs HB.out) hb); have n3_ := Aside0.mk (hbox); have n4_ := Aside0.mk ((by rw [hg]; exact (below_size (bs HB.out)) : w.heap.size ≤ gb351)); have n5_ := n4_; have n6_ := Aside0.mk ((by rw [hg]; exact Nat.ne_of_lt (blk_lt (bg BK349.out)) : gb349 ≠ gb351)); have n7_ := Aside0.mk ((by rw [hg]; exact Nat.ne_of_gt (blk_lt (bg BK349.out)) : gb351 ≠ gb349)); have n8_ := Aside0.mk ((by rw [hg]; exact Nat.ne_of_lt (blk_lt (bg BK350.out)) : gb350 ≠ gb351)); have n9_ := Aside0.mk ((by rw [hg]; exact Nat.ne_of_gt (blk_lt (bg BK350.out)) : gb351 ≠ gb350)); clear BK349; clear BK350; clear HB; have BK349 := n0_; have BK350 := n1_; have HB := n2_; have BK351 := n3_; have GW351 := n4_; have GE351 := n5_; have NB349_351 := n6_; have NB351_349 := n7_; have NB350_351 := n8_; have NB351_350 := n9_; clear n0_ n1_ n2_ n3_ n4_ n5_ n6_ n7_ n8_ n9_; clear hb hbox hg; have hnb166 := NB349_350.out; have hnc166 := NB350_349.out; have hnb167 := NB349_351.out; have hnc167 := NB351_349.out; obtain ⟨hcz168_0, hcz168_1⟩ := bc2 BK349.out; obtain ⟨hfz168_0, hfz168_1⟩ := bf2 BK349.out; have hnb169 := NB350_351.out; have hnc169 := NB351_350.out; obtain ⟨hcz170_0, hcz170_1⟩ := bc2 BK350.out; obtain ⟨hfz170_0, hfz170_1⟩ := bf2 BK350.out) | ((with_reducible refine gate_callee (f := 16) rfl ?_); refine goesL_ (some 17) rfl rfl Try.func16 (by kernel_rfl) rfl #[.agg #[.string a0_0, .slice A0_1 l0_1.length c0_1], .agg #[.slice A1_0 l1_0.length c1_0, .slice A1_1 l1_1.length c1_1]] rfl (by (try simp only [List.map_toArray, List.map_cons, List.map_nil]); first | done | rfl | (simp only [List.length_drop, List.length_take]; rfl)) ?_; (with_reducible refine (trigauto_Compile.calls k a0_0 _ _ l0_1 _ _ l1_0 _ _ l1_1 t352 t355 _ ?side1 ?side2 ?side3 ?side4 ?side5 ?side6 A4.out).mono ?_); (case side1 => repeat (first | exact (Kd.C_below HR0_1.out HB.out) | (with_reducible refine Kd.C_alloc ?_ _) | (with_reducible refine Kd.C_drewN ?_ _) | (with_reducible refine Kd.C_drew ?_))); (case side2 => exact HC0_1.out); (case side3 => repeat (first | exact (Kd.C_below HR1_0.out HB.out) | (with_reducible refine Kd.C_alloc ?_ _) | (with_reducible refine Kd.C_drewN ?_ _) | (with_reducible refine Kd.C_drew ?_))); (case side4 => exact HC1_0.out); (case side5 => repeat (first | exact (Kd.C_below HR1_1.out HB.out) | (with_reducible refine Kd.C_alloc ?_ _) | (with_reducible refine Kd.C_drewN ?_ _) | (with_reducible refine Kd.C_drew ?_))); (case side6 => exact HC1_1.out); rintro e w171 ⟨v353, rfl, ho0, hb⟩; refine ⟨_, rfl, ?_⟩; have n0_ := Aside0.mk (Kd.R_lower ho0 (below_size (bs HB.out))); have n1_ := Aside0.mk (blk_below (bg BK349.out) hb); have n2_ := Aside0.mk (blk_below (bg BK350.out) hb); have n3_ := Aside0.mk (blk_below (bg BK351.out) hb); have n4_ := Aside0.mk (below_step (bs HB.out) hb); clear BK349; clear BK350; clear BK351; clear HB; have HO354 := n0_; have BK349 := n1_; have BK350 := n2_; have BK351 := n3_; have HB := n4_; clear n0_ n1_ n2_ n3_ n4_; (try clear hb); (try clear hb2); (try clear hk); (try clear hi); (try clear ho0)) | ((with_reducible refine gate_dst (N := 7) rfl ?_); refine box_event ?hg (N := 7) ?hd (cs := #[.slice none 0 0]) (t := 31) ?hr ?_; (case hd => rfl); (case hg => rfl); (case hr => first | (go_simp; done) | (go_simp; rfl)); intro gb356 hg w172 hbox hb; have n0_ := Aside0.mk (Kd.R_below (by (with_reducible repeat (first | apply Kd.R_alloc | apply Kd.R_drewN | apply Kd.R_drew)); exact HO354.out) hb); have n1_ := Aside0.mk (blk_below (bg BK349.out) hb); have n2_ := Aside0.mk (blk_below (bg BK350.out) hb); have n3_ := Aside0.mk (blk_below (bg BK351.out) hb); have n4_ := Aside0.mk (below_step (bs HB.out) hb); have n5_ := Aside0.mk (hbox); have n6_ := Aside0.mk ((by rw [hg]; exact (below_size (bs HB.out)) : w.heap.size ≤ gb356)); have n7_ := n6_; have n8_ := Aside0.mk ((by rw [hg]; exact Nat.ne_of_lt (blk_lt (bg BK349.out)) : gb349 ≠ gb356)); have n9_ := Aside0.mk ((by rw [hg]; exact Nat.ne_of_gt (blk_lt (bg BK349.out)) : gb356 ≠ gb349)); have n10_ := Aside0.mk ((by rw [hg]; exact Nat.ne_of_lt (blk_lt (bg BK350.out)) : gb350 ≠ gb356)); have n11_ := Aside0.mk ((by rw [hg]; exact Nat.ne_of_gt (blk_lt (bg BK350.out)) : gb356 ≠ gb350)); have n12_ := Aside0.mk ((by rw [hg]; exact Nat.ne_of_lt (blk_lt (bg BK351.out)) : gb351 ≠ gb356)); have n13_ := Aside0.mk ((by rw [hg]; exact Nat.ne_of_gt (blk_lt (bg BK351.out)) : gb356 ≠ gb351)); clear HO354; clear BK349; clear BK350; clear BK351; clear HB; have HO354 := n0_; have BK349 := n1_; have BK350 := n2_; have BK351 := n3_; have HB := n4_; have BK356 := n5_; have GW356 := n6_; have GE356 := n7_; have NB349_356 := n8_; have NB356_349 := n9_; have NB350_356 := n10_; have NB356_350 := n11_; have NB351_356 := n12_; have NB356_351 := n13_; clear n0_ n1_ n2_ n3_ n4_ n5_ n6_ n7_ n8_ n9_ n10_ n11_ n12_ n13_; clear hb hbox hg; obtain ⟨Ao173, co173, eo173⟩ := Kd.R_slice HO354.out; subst eo173; have hnb174 := NB356_349.out; have hnc174 := NB349_356.out; have hnb175 := NB356_350.out; have hnc175 := NB350_356.out; have hnb176 := NB356_351.out; have hnc176 := NB351_356.out; have hcz177_0 : w172.cell? ⟨gb356, 0, none⟩ = some (.slice none 0 0) := (blk_cell BK356.out 0).trans rfl; have hfz177_0 := blk_frozen BK356.out 0) | (go_at_call 19; (with_reducible refine (signalbenchlaw44_awake.calls  t357 _ A162.out).mono ?_); rintro e w178 ⟨rfl, hb⟩; have n0_ := Aside0.mk (Kd.R_below (by (with_reducible repeat (first | apply Kd.R_alloc | apply Kd.R_drewN | apply Kd.R_drew)); exact (Kd.R_mono (Kd.R_far (p := ⟨gb356, 0, none⟩) (Kd.R_types HO354.out BK356.out (by decide)) (fun _ hk => hk.2) (.slice Ao173 t352.length co173)) (fun _ h_ => h_.1))) hb); have n1_ := Aside0.mk (blk_below (g := gb349) (o := .cells #[.string a0_0, .slice A0_1 l0_1.length c0_1] 24 (0, 0)) (by (with_reducible repeat (first | refine blk_drewN ?_ _ | refine blk_drew ?_ | refine blk_alloc ?_ _)); refine blk_far ?_ NB349_356.out _; exact bg BK349.out) hb); have n2_ := Aside0.mk (blk_below (g := gb350) (o := .cells #[.slice A1_0 l1_0.length c1_0, .slice A1_1 l1_1.length c1_1] 28 (0, 0)) (by (with_reducible repeat (first | refine blk_drewN ?_ _ | refine blk_drew ?_ | refine blk_alloc ?_ _)); refine blk_far ?_ NB350_356.out _; exact bg BK350.out) hb); have n3_ := Aside0.mk (blk_below (g := gb351) (o := .cells #[.int .i64 a2_0, .int .i64 a2_1, .int .i64 a2_2, .int .i64 a2_3, .int .i64 a2_4, .int .i64 a2_5, .int .i64 a2_6, .string a2_7, .int .i64 a2_8] 46 (0, 0)) (by (with_reducible repeat (first | refine blk_drewN ?_ _ | refine blk_drew ?_ | refine blk_alloc ?_ _)); refine blk_far ?_ NB351_356.out _; exact bg BK351.out) hb); have n4_ := Aside0.mk (blk_below (g := gb356) (o := .cells #[.slice Ao173 t352.length co173] 31 (0, 0)) (by (with_reducible repeat (first | refine blk_drewN ?_ _ | refine blk_drew ?_ | refine blk_alloc ?_ _)); refine blk_put (cs := #[.slice none 0 0]) ?_ 0 _ rfl; exact bg BK356.out) hb); have n5_ := Aside0.mk (below_step (bs HB.out) hb); clear HO354; clear BK349; clear BK350; clear BK351; clear BK356; clear HB; have HO354 := n0_; have BK349 := n1_; have BK350 := n2_; have BK351 := n3_; have BK356 := n4_; have HB := n5_; clear n0_ n1_ n2_ n3_ n4_ n5_; (try clear hb); (try clear hb2); (try clear hk); (try clear hi)))
   go_ret
   exact ⟨by first | rfl | (simp [errW_none, errW_some] <;> rfl) | (simp [*, errW_none, errW_some] <;> rfl), bs HB.out⟩
  ·
   rw [if_neg c161] at H
   have c161b0 : ((t352.length : Int) == 0) = false := beq_eq_false_iff_ne.mpr c161
   have c161b1 : ((t352.length : Int) != 0) = true := bne_iff_ne.mpr c161
   have c161b2 : ¬ (t352 = []) := fun h_ => c161 (by rw [h_]; rfl)
   obtain rfl := Option.some.inj H
   go_enter Try.func14, Try.ntmps14
   go_wp2_with (first | ((with_reducible refine gate_dst (N := 3) rfl ?_); refine box_event ?hg (N := 3) ?hd (cs := #[.string a0_0, .slice A0_1 l0_1.length c0_1]) (t := 24) ?hr ?_; (case hd => rfl); (case hg => rfl); (case hr => first | (go_simp; done) | (go_simp; rfl)); intro gb349 hg w179 hbox hb; have n0_ := Aside0.mk (below_step (bs HB.out) hb); have n1_ := Aside0.mk (hbox); have n2_ := Aside0.mk ((by rw [hg]; exact (below_size (bs HB.out)) : w.heap.size ≤ gb349)); have n3_ := n2_; clear HB; have HB := n0_; have BK349 := n1_; have GW349 := n2_; have GE349 := n3_; clear n0_ n1_ n2_ n3_; clear hb hbox hg) | ((with_reducible refine gate_dst (N := 4) rfl ?_); refine box_event ?hg (N := 4) ?hd (cs := #[.slice A1_0 l1_0.length c1_0, .slice A1_1 l1_1.length c1_1]) (t := 28) ?hr ?_; (case hd => rfl); (case hg => rfl); (case hr => first | (go_simp; done) | (go_simp; rfl)); intro gb350 hg w180 hbox hb; have n0_ := Aside0.mk (blk_below (bg BK349.out) hb); have n1_ := Aside0.mk (below_step (bs HB.out) hb); have n2_ := Aside0.mk (hbox); have n3_ := Aside0.mk ((by rw [hg]; exact (below_size (bs HB.out)) : w.heap.size ≤ gb350)); have n4_ := n3_; have n5_ := Aside0.mk ((by rw [hg]; exact Nat.ne_of_lt (blk_lt (bg BK349.out)) : gb349 ≠ gb350)); have n6_ := Aside0.mk ((by rw [hg]; exact Nat.ne_of_gt (blk_lt (bg BK349.out)) : gb350 ≠ gb349)); clear BK349; clear HB; have BK349 := n0_; have HB := n1_; have BK350 := n2_; have GW350 := n3_; have GE350 := n4_; have NB349_350 := n5_; have NB350_349 := n6_; clear n0_ n1_ n2_ n3_ n4_ n5_ n6_; clear hb hbox hg) | ((with_reducible refine gate_dst (N := 5) rfl ?_); refine box_event ?hg (N := 5) ?hd (cs := #[.int .i64 a2_0, .int .i64 a2_1, .int .i64 a2_2, .int .i64 a2_3, .int .i64 a2_4, .int .i64 a2_5, .int .i64 a2_6, .string a2_7, .int .i64 a2_8]) (t := 46) ?hr ?_; (case hd => rfl); (case hg => rfl); (case hr => first | (go_simp; done) | (go_simp; rfl)); intro gb351 hg w181 hbox hb; have n0_ := Aside0.mk (blk_below (bg BK349.out) hb); have n1_ := Aside0.mk (blk_below (bg BK350.out) hb); have n2_ := Aside0.mk (below_step (bs HB.out) hb); have n3_ := Aside0.mk (hbox); have n4_ := Aside0.mk ((by rw [hg]; exact (below_size (bs HB.out)) : w.heap.size ≤ gb351)); have n5_ := n4_; have n6_ := Aside0.mk ((by rw [hg]; exact Nat.ne_of_lt (blk_lt (bg BK349.out)) : gb349 ≠ gb351)); have n7_ := Aside0.mk ((by rw [hg]; exact Nat.ne_of_gt (blk_lt (bg BK349.out)) : gb351 ≠ gb349)); have n8_ := Aside0.mk ((by rw [hg]; exact Nat.ne_of_lt (blk_lt (bg BK350.out)) : gb350 ≠ gb351)); have n9_ := Aside0.mk ((by rw [hg]; exact Nat.ne_of_gt (blk_lt (bg BK350.out)) : gb351 ≠ gb350)); clear BK349; clear BK350; clear HB; have BK349 := n0_; have BK350 := n1_; have HB := n2_; have BK351 := n3_; have GW351 := n4_; have GE351 := n5_; have NB349_351 := n6_; have NB351_349 := n7_; have NB350_351 := n8_; have NB351_350 := n9_; clear n0_ n1_ n2_ n3_ n4_ n5_ n6_ n7_ n8_ n9_; clear hb hbox hg; have hnb182 := NB349_350.out; have hnc182 := NB350_349.out; have hnb183 := NB349_351.out; have hnc183 := NB351_349.out; obtain ⟨hcz184_0, hcz184_1⟩ := bc2 BK349.out; obtain ⟨hfz184_0, hfz184_1⟩ := bf2 BK349.out; have hnb185 := NB350_351.out; have hnc185 := NB351_350.out; obtain ⟨hcz186_0, hcz186_1⟩ := bc2 BK350.out; obtain ⟨hfz186_0, hfz186_1⟩ := bf2 BK350.out) | ((with_reducible refine gate_callee (f := 16) rfl ?_); refine goesL_ (some 17) rfl rfl Try.func16 (by kernel_rfl) rfl #[.agg #[.string a0_0, .slice A0_1 l0_1.length c0_1], .agg #[.slice A1_0 l1_0.length c1_0, .slice A1_1 l1_1.length c1_1]] rfl (by (try simp only [List.map_toArray, List.map_cons, List.map_nil]); first | done | rfl | (simp only [List.length_drop, List.length_take]; rfl)) ?_; (with_reducible refine (trigauto_Compile.calls k a0_0 _ _ l0_1 _ _ l1_0 _ _ l1_1 t352 t355 _ ?side1 ?side2 ?side3 ?side4 ?side5 ?side6 A4.out).mono ?_); (case side1 => repeat (first | exact (Kd.C_below HR0_1.out HB.out) | (with_reducible refine Kd.C_alloc ?_ _) | (with_reducible refine Kd.C_drewN ?_ _) | (with_reducible refine Kd.C_drew ?_))); (case side2 => exact HC0_1.out); (case side3 => repeat (first | exact (Kd.C_below HR1_0.out HB.out) | (with_reducible refine Kd.C_alloc ?_ _) | (with_reducible refine Kd.C_drewN ?_ _) | (with_reducible refine Kd.C_drew ?_))); (case side4 => exact HC1_0.out); (case side5 => repeat (first | exact (Kd.C_below HR1_1.out HB.out) | (with_reducible refine Kd.C_alloc ?_ _) | (with_reducible refine Kd.C_drewN ?_ _) | (with_reducible refine Kd.C_drew ?_))); (case side6 => exact HC1_1.out); rintro e w187 ⟨v353, rfl, ho0, hb⟩; refine ⟨_, rfl, ?_⟩; have n0_ := Aside0.mk (Kd.R_lower ho0 (below_size (bs HB.out))); have n1_ := Aside0.mk (blk_below (bg BK349.out) hb); have n2_ := Aside0.mk (blk_below (bg BK350.out) hb); have n3_ := Aside0.mk (blk_below (bg BK351.out) hb); have n4_ := Aside0.mk (below_step (bs HB.out) hb); clear BK349; clear BK350; clear BK351; clear HB; have HO354 := n0_; have BK349 := n1_; have BK350 := n2_; have BK351 := n3_; have HB := n4_; clear n0_ n1_ n2_ n3_ n4_; (try clear hb); (try clear hb2); (try clear hk); (try clear hi); (try clear ho0)) | ((with_reducible refine gate_dst (N := 7) rfl ?_); refine box_event ?hg (N := 7) ?hd (cs := #[.slice none 0 0]) (t := 31) ?hr ?_; (case hd => rfl); (case hg => rfl); (case hr => first | (go_simp; done) | (go_simp; rfl)); intro gb356 hg w188 hbox hb; have n0_ := Aside0.mk (Kd.R_below (by (with_reducible repeat (first | apply Kd.R_alloc | apply Kd.R_drewN | apply Kd.R_drew)); exact HO354.out) hb); have n1_ := Aside0.mk (blk_below (bg BK349.out) hb); have n2_ := Aside0.mk (blk_below (bg BK350.out) hb); have n3_ := Aside0.mk (blk_below (bg BK351.out) hb); have n4_ := Aside0.mk (below_step (bs HB.out) hb); have n5_ := Aside0.mk (hbox); have n6_ := Aside0.mk ((by rw [hg]; exact (below_size (bs HB.out)) : w.heap.size ≤ gb356)); have n7_ := n6_; have n8_ := Aside0.mk ((by rw [hg]; exact Nat.ne_of_lt (blk_lt (bg BK349.out)) : gb349 ≠ gb356)); have n9_ := Aside0.mk ((by rw [hg]; exact Nat.ne_of_gt (blk_lt (bg BK349.out)) : gb356 ≠ gb349)); have n10_ := Aside0.mk ((by rw [hg]; exact Nat.ne_of_lt (blk_lt (bg BK350.out)) : gb350 ≠ gb356)); have n11_ := Aside0.mk ((by rw [hg]; exact Nat.ne_of_gt (blk_lt (bg BK350.out)) : gb356 ≠ gb350)); have n12_ := Aside0.mk ((by rw [hg]; exact Nat.ne_of_lt (blk_lt (bg BK351.out)) : gb351 ≠ gb356)); have n13_ := Aside0.mk ((by rw [hg]; exact Nat.ne_of_gt (blk_lt (bg BK351.out)) : gb356 ≠ gb351)); clear HO354; clear BK349; clear BK350; clear BK351; clear HB; have HO354 := n0_; have BK349 := n1_; have BK350 := n2_; have BK351 := n3_; have HB := n4_; have BK356 := n5_; have GW356 := n6_; have GE356 := n7_; have NB349_356 := n8_; have NB356_349 := n9_; have NB350_356 := n10_; have NB356_350 := n11_; have NB351_356 := n12_; have NB356_351 := n13_; clear n0_ n1_ n2_ n3_ n4_ n5_ n6_ n7_ n8_ n9_ n10_ n11_ n12_ n13_; clear hb hbox hg; obtain ⟨Ao189, co189, eo189⟩ := Kd.R_slice HO354.out; subst eo189; have hnb190 := NB356_349.out; have hnc190 := NB349_356.out; have hnb191 := NB356_350.out; have hnc191 := NB350_356.out; have hnb192 := NB356_351.out; have hnc192 := NB351_356.out; have hcz193_0 : w188.cell? ⟨gb356, 0, none⟩ = some (.slice none 0 0) := (blk_cell BK356.out 0).trans rfl; have hfz193_0 := blk_frozen BK356.out 0))
   go_ret
   exact ⟨by first | rfl | (simp [errW_none, errW_some] <;> rfl) | (simp [*, errW_none, errW_some] <;> rfl), bs HB.out⟩

end Go.Proofs.Ytgdjiphljadlcaa.H
