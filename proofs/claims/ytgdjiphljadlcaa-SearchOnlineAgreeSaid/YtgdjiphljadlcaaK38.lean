-- Printed by wip/hprint.py (this project's own driver of the kit's print) out of the translation; Lean checks it.
import Derived.Test.YtgdjiphljadlcaaK0
import Derived.Test.YtgdjiphljadlcaaKW2
import Derived.Test.YtgdjiphljadlcaaK4
import Derived.Test.YtgdjiphljadlcaaK7
import Derived.Test.YtgdjiphljadlcaaK36
import Derived.Test.YtgdjiphljadlcaaK37
import Derived.Test.YtgdjiphljadlcaaKClone
namespace Go.Proofs.Ytgdjiphljadlcaa.K
open Go.RowKit Go.Proofs.YtgdjiphljadlcaaW.PrintWords Go.Proofs.YtgdjiphljadlcaaW.PrintLast Go.Proofs.YtgdjiphljadlcaaW.PrintMore
attribute [local go_sem] max2_int min2_int max_two min_two max_three min_three max_four min_four   -- for this text's walks alone
set_option linter.unusedVariables false
set_option linter.unusedSimpArgs false

/-! ### online_Step: function 69 -/
mutual
def online_Step.j0 : Nat → List Int → List (S50) → Int → Int → Int → Int → Int → Int → Int → ByteArray → Int → Option (List Int × Bool)
 | 0, _, _, _, _, _, _, _, _, _, _, _ => none
 | k + 1, x8, x513000, x515000, x515001, x515002, x515003, x515004, x515005, x515006, x515007, x515008 => if x515001 < 0 then (online_Step.j1 k x8 true x513000 x515000 x515001 x515002 x515003 x515004 x515005 x515006 x515007 x515008) else (online_Step.j1 k x8 (decide (x515001 > 1099511627776)) x513000 x515000 x515001 x515002 x515003 x515004 x515005 x515006 x515007 x515008)
def online_Step.j1 : Nat → List Int → Bool → List (S50) → Int → Int → Int → Int → Int → Int → Int → ByteArray → Int → Option (List Int × Bool)
 | 0, _, _, _, _, _, _, _, _, _, _, _, _ => none
 | k + 1, x8, x34, x513000, x515000, x515001, x515002, x515003, x515004, x515005, x515006, x515007, x515008 => if x34 = true then (some (x8, false)) else (online_Step.l0 k x8 false (x513000.length : Int) 0 x513000 x515000 x515001 x515002 x515003 x515004 x515005 x515006 x515007 x515008)
def online_Step.l0 : Nat → List Int → Bool → Int → Int → List (S50) → Int → Int → Int → Int → Int → Int → Int → ByteArray → Int → Option (List Int × Bool)
 | 0, _, _, _, _, _, _, _, _, _, _, _, _, _, _ => none
 | k + 1, x8, x9, x39, x40, x513000, x515000, x515001, x515002, x515003, x515004, x515005, x515006, x515007, x515008 => if x40 < x39 then ((online_matched.f k x513000 x8 (wrap64 ((wrap64 ((x513000.length : Int) - 1)) - x40)) x515000 x515001 x515002 x515003 x515004 x515005 x515006 x515007 x515008).bind fun t524 => (if (wrap64 ((wrap64 ((x513000.length : Int) - 1)) - x40)) > 0 then (if 0 ≤ (wrap64 ((wrap64 ((x513000.length : Int) - 1)) - x40)) then (if (wrap64 ((wrap64 ((x513000.length : Int) - 1)) - x40)) < (x513000.length : Int) then (if (rd_T50 x513000 (wrap64 ((wrap64 ((x513000.length : Int) - 1)) - x40))).f2 = true then ((trigauto_Holds.f k ((rd_T50 x513000 (wrap64 ((wrap64 ((x513000.length : Int) - 1)) - x40))).f3.f0) ((rd_T50 x513000 (wrap64 ((wrap64 ((x513000.length : Int) - 1)) - x40))).f3.f1) ((rd_T50 x513000 (wrap64 ((wrap64 ((x513000.length : Int) - 1)) - x40))).f3.f2) ((rd_T50 x513000 (wrap64 ((wrap64 ((x513000.length : Int) - 1)) - x40))).f3.f3) ((rd_T50 x513000 (wrap64 ((wrap64 ((x513000.length : Int) - 1)) - x40))).f3.f4) x515000 x515001 x515002 x515003 x515004 x515005 x515006 x515007 x515008).bind fun t527 => (online_Step.j3 k x8 x9 x40 (wrap64 ((wrap64 ((x513000.length : Int) - 1)) - x40)) t524 x39 x40 t527 x513000 x515000 x515001 x515002 x515003 x515004 x515005 x515006 x515007 x515008)) else (online_Step.j3 k x8 x9 x40 (wrap64 ((wrap64 ((x513000.length : Int) - 1)) - x40)) t524 x39 x40 false x513000 x515000 x515001 x515002 x515003 x515004 x515005 x515006 x515007 x515008)) else (none)) else (none)) else (online_Step.j3 k x8 x9 x40 (wrap64 ((wrap64 ((x513000.length : Int) - 1)) - x40)) t524 x39 x40 false x513000 x515000 x515001 x515002 x515003 x515004 x515005 x515006 x515007 x515008))) else (some (x8, x9))
def online_Step.j3 : Nat → List Int → Bool → Int → Int → Bool → Int → Int → Bool → List (S50) → Int → Int → Int → Int → Int → Int → Int → ByteArray → Int → Option (List Int × Bool)
 | 0, _, _, _, _, _, _, _, _, _, _, _, _, _, _, _, _, _, _ => none
 | k + 1, x8, x9, x10, x11, x12, x39, x40, x73, x513000, x515000, x515001, x515002, x515003, x515004, x515005, x515006, x515007, x515008 => if x73 = true then (if 0 ≤ (wrap64 (x11 - 1)) then (if (wrap64 (x11 - 1)) < (x8.length : Int) then ((some (x8.set ((wrap64 (x11 - 1)) : Int).toNat (-1) : List Int)).bind fun y528 => (if x12 = true then (if 0 ≤ x11 then (if x11 < (x8.length : Int) then ((some (y528.set (x11 : Int).toNat x515001 : List Int)).bind fun y529 => (if x9 = true then (online_Step.l0 k y529 true x39 (wrap64 (x40 + 1)) x513000 x515000 x515001 x515002 x515003 x515004 x515005 x515006 x515007 x515008) else (online_Step.l0 k y529 (x10 == 0) x39 (wrap64 (x40 + 1)) x513000 x515000 x515001 x515002 x515003 x515004 x515005 x515006 x515007 x515008))) else (none)) else (none)) else (online_Step.l0 k y528 x9 x39 (wrap64 (x40 + 1)) x513000 x515000 x515001 x515002 x515003 x515004 x515005 x515006 x515007 x515008))) else (none)) else (none)) else (if x12 = true then (if 0 ≤ x11 then (if x11 < (x8.length : Int) then ((some (x8.set (x11 : Int).toNat x515001 : List Int)).bind fun y530 => (if x9 = true then (online_Step.l0 k y530 true x39 (wrap64 (x40 + 1)) x513000 x515000 x515001 x515002 x515003 x515004 x515005 x515006 x515007 x515008) else (online_Step.l0 k y530 (x10 == 0) x39 (wrap64 (x40 + 1)) x513000 x515000 x515001 x515002 x515003 x515004 x515005 x515006 x515007 x515008))) else (none)) else (none)) else (online_Step.l0 k x8 x9 x39 (wrap64 (x40 + 1)) x513000 x515000 x515001 x515002 x515003 x515004 x515005 x515006 x515007 x515008))
end
def online_Step.f (k : Nat) (l0_0 : List (S50)) (l1_0 : List Int) (a2_0 : Int) (a2_1 : Int) (a2_2 : Int) (a2_3 : Int) (a2_4 : Int) (a2_5 : Int) (a2_6 : Int) (a2_7 : ByteArray) (a2_8 : Int) : Option (List Int × Bool) := (trigauto_Check.f k l0_0).bind fun t516 => (if t516 = 0 then ((slices_Clone_int_int.f l1_0).bind fun t517 => ((online_valid.f k l0_0 l1_0).bind fun t520 => (if t520 = true then (online_Step.j0 k t517 l0_0 a2_0 a2_1 a2_2 a2_3 a2_4 a2_5 a2_6 a2_7 a2_8) else ((online_Start.f k l0_0).bind fun t521 => (online_Step.j0 k t521 l0_0 a2_0 a2_1 a2_2 a2_3 a2_4 a2_5 a2_6 a2_7 a2_8))))) else (some (([] : List Int), false)))
def online_Step.T14 : Bool × List (List Nat × List Nat) := (true, [([], []), ([0], [0]), ([1], [1]), ([2], [2]), ([3, 2], [2, 3]), ([2], [2]), ([4, 5, 2], [2, 4, 5]), ([6, 2], [2, 6]), ([7, 2], [2, 7]), ([2, 8], [2, 8]), ([9, 2], [9]), ([10], [10]), ([11, 10], [10, 11]), ([10], [10]), ([12, 13, 10], [10, 12, 13]), ([14, 10], [10, 14]), ([15, 10], [10, 15]), ([10], [10]), ([16, 17, 10, 10], [10, 16, 17]), ([10, 18], [10, 18])])
def online_Step.B14 : List Nat := [0, 1, 3, 7, 15, 7, 63, 127, 255, 511, 1023, 2047, 4095, 2047, 16383, 32767, 65535, 2047, 262143, 524287]
theorem online_Step.tab14 : rtab .any (opsOf Try.f69 14) = online_Step.T14 := by kernel_rfl
theorem online_Step.bits14 : waitsOk online_Step.T14.2 online_Step.B14 = true := by kernel_rfl
set_option maxHeartbeats 8000000 in
set_option maxRecDepth 100000 in
theorem online_Step.calls (k : Nat) (A0_0 : Option Addr) (c0_0 : Nat) (l0_0 : List (S50)) (A1_0 : Option Addr) (c1_0 : Nat) (l1_0 : List Int) (a2_0 : Int) (a2_1 : Int) (a2_2 : Int) (a2_3 : Int) (a2_4 : Int) (a2_5 : Int) (a2_6 : Int) (a2_7 : ByteArray) (a2_8 : Int) (r1 : List Int) (r2 : Bool) (w : World) (hr0_0 : Kd.C k50 w A0_0 l0_0.length l0_0) (hc0_0 : l0_0.length ≤ c0_0) (hr1_0 : Kd.C (Kd.int .i64) w A1_0 l1_0.length l1_0) (hc1_0 : l1_0.length ≤ c1_0) (h : online_Step.f k l0_0 l1_0 a2_0 a2_1 a2_2 a2_3 a2_4 a2_5 a2_6 a2_7 a2_8 = some (r1, r2)) :
  Calls Try.prog 69 #[.agg #[.slice A0_0 l0_0.length c0_0], .agg #[.slice A1_0 l1_0.length c1_0], .agg #[.int .i64 a2_0, .int .i64 a2_1, .int .i64 a2_2, .int .i64 a2_3, .int .i64 a2_4, .int .i64 a2_5, .int .i64 a2_6, .string a2_7, .int .i64 a2_8]] w fun e w' => ∃ v0_ : Value, e = .returned (.tuple #[.agg #[v0_], .bool r2]) ∧ Kd.R (Kd.int .i64) 3 w' w.heap.size (fun _ => True) v0_ r1 ∧ Below w.heap.size w w' := by
 have hu31 := Try.underlying31
 have hu93 := Try.underlying93
 have hu46 := Try.underlying46
 have hu42 := Try.underlying42
 have HR0_0 := Aside0.mk hr0_0
 have HC0_0 := Aside0.mk hc0_0
 clear hr0_0 hc0_0
 have HR1_0 := Aside0.mk hr1_0
 have HC1_0 := Aside0.mk hc1_0
 clear hr1_0 hc1_0
 have HB := Aside0.mk (Below.refl w.heap.size w)
 have H : ((trigauto_Check.f k l0_0).bind fun t516 => (if t516 = 0 then ((slices_Clone_int_int.f l1_0).bind fun t517 => ((online_valid.f k l0_0 l1_0).bind fun t520 => (if t520 = true then (online_Step.j0 k t517 l0_0 a2_0 a2_1 a2_2 a2_3 a2_4 a2_5 a2_6 a2_7 a2_8) else ((online_Start.f k l0_0).bind fun t521 => (online_Step.j0 k t521 l0_0 a2_0 a2_1 a2_2 a2_3 a2_4 a2_5 a2_6 a2_7 a2_8))))) else (some (([] : List Int), false)))) = some (r1, r2) := h
 clear h
 replace H := Option.bind_eq_some_iff.mp H
 obtain ⟨t516, A40, H⟩ := H
 replace H : (if t516 = 0 then ((slices_Clone_int_int.f l1_0).bind fun t517 => ((online_valid.f k l0_0 l1_0).bind fun t520 => (if t520 = true then (online_Step.j0 k t517 l0_0 a2_0 a2_1 a2_2 a2_3 a2_4 a2_5 a2_6 a2_7 a2_8) else ((online_Start.f k l0_0).bind fun t521 => (online_Step.j0 k t521 l0_0 a2_0 a2_1 a2_2 a2_3 a2_4 a2_5 a2_6 a2_7 a2_8))))) else (some (([] : List Int), false))) = some (r1, r2) := H
 have A4 := Aside0.mk A40
 clear A40
 by_cases c5 : t516 = 0
 ·
  rw [if_pos c5] at H
  have c5b0 : (t516 == 0) = true := beq_iff_eq.mpr c5
  have c5b1 : (t516 != 0) = false := bne_eq_false_iff_eq.mpr c5
  clear c5
  replace H := Option.bind_eq_some_iff.mp H
  obtain ⟨t517, A60, H⟩ := H
  replace H : ((online_valid.f k l0_0 l1_0).bind fun t520 => (if t520 = true then (online_Step.j0 k t517 l0_0 a2_0 a2_1 a2_2 a2_3 a2_4 a2_5 a2_6 a2_7 a2_8) else ((online_Start.f k l0_0).bind fun t521 => (online_Step.j0 k t521 l0_0 a2_0 a2_1 a2_2 a2_3 a2_4 a2_5 a2_6 a2_7 a2_8)))) = some (r1, r2) := H
  have A6 := Aside0.mk A60
  clear A60
  replace H := Option.bind_eq_some_iff.mp H
  obtain ⟨t520, A70, H⟩ := H
  replace H : (if t520 = true then (online_Step.j0 k t517 l0_0 a2_0 a2_1 a2_2 a2_3 a2_4 a2_5 a2_6 a2_7 a2_8) else ((online_Start.f k l0_0).bind fun t521 => (online_Step.j0 k t521 l0_0 a2_0 a2_1 a2_2 a2_3 a2_4 a2_5 a2_6 a2_7 a2_8))) = some (r1, r2) := H
  have A7 := Aside0.mk A70
  clear A70
  have HC8 := Aside0.mk H
  clear H
  go_enter Try.func69, Try.ntmps69
  go_upto_if 23 with (first | ((with_reducible refine gate_dst (N := 3) rfl ?_); refine box_event ?hg (N := 3) ?hd (cs := #[.slice A0_0 l0_0.length c0_0]) (t := 31) ?hr ?_; (case hd => rfl); (case hg => rfl); (case hr => first | (go_simp; done) | (go_simp; rfl)); intro gb512 hg w9 hbox hb; have n0_ := Aside0.mk (below_step (bs HB.out) hb); have n1_ := Aside0.mk (hbox); have n2_ := Aside0.mk ((by rw [hg]; exact (below_size (bs HB.out)) : w.heap.size ≤ gb512)); have n3_ := n2_; clear HB; have HB := n0_; have BK512 := n1_; have GW512 := n2_; have GE512 := n3_; clear n0_ n1_ n2_ n3_; clear hb hbox hg) | ((with_reducible refine gate_dst (N := 4) rfl ?_); refine box_event ?hg (N := 4) ?hd (cs := #[.slice A1_0 l1_0.length c1_0]) (t := 93) ?hr ?_; (case hd => rfl); (case hg => rfl); (case hr => first | (go_simp; done) | (go_simp; rfl)); intro gb513 hg w10 hbox hb; have n0_ := Aside0.mk (blk_below (bg BK512.out) hb); have n1_ := Aside0.mk (below_step (bs HB.out) hb); have n2_ := Aside0.mk (hbox); have n3_ := Aside0.mk ((by rw [hg]; exact (below_size (bs HB.out)) : w.heap.size ≤ gb513)); have n4_ := n3_; have n5_ := Aside0.mk ((by rw [hg]; exact Nat.ne_of_lt (blk_lt (bg BK512.out)) : gb512 ≠ gb513)); have n6_ := Aside0.mk ((by rw [hg]; exact Nat.ne_of_gt (blk_lt (bg BK512.out)) : gb513 ≠ gb512)); clear BK512; clear HB; have BK512 := n0_; have HB := n1_; have BK513 := n2_; have GW513 := n3_; have GE513 := n4_; have NB512_513 := n5_; have NB513_512 := n6_; clear n0_ n1_ n2_ n3_ n4_ n5_ n6_; clear hb hbox hg) | ((with_reducible refine gate_dst (N := 5) rfl ?_); refine box_event ?hg (N := 5) ?hd (cs := #[.int .i64 a2_0, .int .i64 a2_1, .int .i64 a2_2, .int .i64 a2_3, .int .i64 a2_4, .int .i64 a2_5, .int .i64 a2_6, .string a2_7, .int .i64 a2_8]) (t := 46) ?hr ?_; (case hd => rfl); (case hg => rfl); (case hr => first | (go_simp; done) | (go_simp; rfl)); intro gb514 hg w11 hbox hb; have n0_ := Aside0.mk (blk_below (bg BK512.out) hb); have n1_ := Aside0.mk (blk_below (bg BK513.out) hb); have n2_ := Aside0.mk (below_step (bs HB.out) hb); have n3_ := Aside0.mk (hbox); have n4_ := Aside0.mk ((by rw [hg]; exact (below_size (bs HB.out)) : w.heap.size ≤ gb514)); have n5_ := n4_; have n6_ := Aside0.mk ((by rw [hg]; exact Nat.ne_of_lt (blk_lt (bg BK512.out)) : gb512 ≠ gb514)); have n7_ := Aside0.mk ((by rw [hg]; exact Nat.ne_of_gt (blk_lt (bg BK512.out)) : gb514 ≠ gb512)); have n8_ := Aside0.mk ((by rw [hg]; exact Nat.ne_of_lt (blk_lt (bg BK513.out)) : gb513 ≠ gb514)); have n9_ := Aside0.mk ((by rw [hg]; exact Nat.ne_of_gt (blk_lt (bg BK513.out)) : gb514 ≠ gb513)); clear BK512; clear BK513; clear HB; have BK512 := n0_; have BK513 := n1_; have HB := n2_; have BK514 := n3_; have GW514 := n4_; have GE514 := n5_; have NB512_514 := n6_; have NB514_512 := n7_; have NB513_514 := n8_; have NB514_513 := n9_; clear n0_ n1_ n2_ n3_ n4_ n5_ n6_ n7_ n8_ n9_; clear hb hbox hg) | ((with_reducible refine gate_dst (N := 6) rfl ?_); refine box_event ?hg (N := 6) ?hd (cs := #[.slice none 0 0]) (t := 93) ?hr ?_; (case hd => rfl); (case hg => rfl); (case hr => first | (go_simp; done) | (go_simp; rfl)); intro gb515 hg w12 hbox hb; have n0_ := Aside0.mk (blk_below (bg BK512.out) hb); have n1_ := Aside0.mk (blk_below (bg BK513.out) hb); have n2_ := Aside0.mk (blk_below (bg BK514.out) hb); have n3_ := Aside0.mk (below_step (bs HB.out) hb); have n4_ := Aside0.mk (hbox); have n5_ := Aside0.mk ((by rw [hg]; exact (below_size (bs HB.out)) : w.heap.size ≤ gb515)); have n6_ := n5_; have n7_ := Aside0.mk ((by rw [hg]; exact Nat.ne_of_lt (blk_lt (bg BK512.out)) : gb512 ≠ gb515)); have n8_ := Aside0.mk ((by rw [hg]; exact Nat.ne_of_gt (blk_lt (bg BK512.out)) : gb515 ≠ gb512)); have n9_ := Aside0.mk ((by rw [hg]; exact Nat.ne_of_lt (blk_lt (bg BK513.out)) : gb513 ≠ gb515)); have n10_ := Aside0.mk ((by rw [hg]; exact Nat.ne_of_gt (blk_lt (bg BK513.out)) : gb515 ≠ gb513)); have n11_ := Aside0.mk ((by rw [hg]; exact Nat.ne_of_lt (blk_lt (bg BK514.out)) : gb514 ≠ gb515)); have n12_ := Aside0.mk ((by rw [hg]; exact Nat.ne_of_gt (blk_lt (bg BK514.out)) : gb515 ≠ gb514)); clear BK512; clear BK513; clear BK514; clear HB; have BK512 := n0_; have BK513 := n1_; have BK514 := n2_; have HB := n3_; have BK515 := n4_; have GW515 := n5_; have GE515 := n6_; have NB512_515 := n7_; have NB515_512 := n8_; have NB513_515 := n9_; have NB515_513 := n10_; have NB514_515 := n11_; have NB515_514 := n12_; clear n0_ n1_ n2_ n3_ n4_ n5_ n6_ n7_ n8_ n9_ n10_ n11_ n12_; clear hb hbox hg; have hnb13 := NB512_513.out; have hnc13 := NB513_512.out; have hnb14 := NB512_514.out; have hnc14 := NB514_512.out; have hnb15 := NB512_515.out; have hnc15 := NB515_512.out; have hcz16_0 : w12.cell? ⟨gb512, 0, none⟩ = some (.slice A0_0 l0_0.length c0_0) := (blk_cell BK512.out 0).trans rfl; have hfz16_0 := blk_frozen BK512.out 0) | ((with_reducible refine gate_callee (f := 20) rfl ?_); refine goesL_ (some 14) rfl rfl Try.func20 (by kernel_rfl) rfl #[.agg #[.slice A0_0 l0_0.length c0_0]] rfl (by (try simp only [List.map_toArray, List.map_cons, List.map_nil]); first | done | rfl | (simp only [List.length_drop, List.length_take]; rfl)) ?_; (with_reducible refine (trigauto_Check.calls k _ _ l0_0 t516 _ ?side1 ?side2 A4.out).mono ?_); (case side1 => repeat (first | exact (Kd.C_below HR0_0.out HB.out) | (with_reducible refine Kd.C_alloc ?_ _) | (with_reducible refine Kd.C_drewN ?_ _) | (with_reducible refine Kd.C_drew ?_))); (case side2 => exact HC0_0.out); rintro e w17 ⟨rfl, hb⟩; refine ⟨_, rfl, ?_⟩; have n0_ := Aside0.mk (blk_below (bg BK512.out) hb); have n1_ := Aside0.mk (blk_below (bg BK513.out) hb); have n2_ := Aside0.mk (blk_below (bg BK514.out) hb); have n3_ := Aside0.mk (blk_below (bg BK515.out) hb); have n4_ := Aside0.mk (below_step (bs HB.out) hb); clear BK512; clear BK513; clear BK514; clear BK515; clear HB; have BK512 := n0_; have BK513 := n1_; have BK514 := n2_; have BK515 := n3_; have HB := n4_; clear n0_ n1_ n2_ n3_ n4_; (try clear hb); (try clear hb2); (try clear hk); (try clear hi); have hnb18 := NB513_514.out; have hnc18 := NB514_513.out; have hnb19 := NB513_515.out; have hnc19 := NB515_513.out; have hcz20_0 : w17.cell? ⟨gb513, 0, none⟩ = some (.slice A1_0 l1_0.length c1_0) := (blk_cell BK513.out 0).trans rfl; have hfz20_0 := blk_frozen BK513.out 0) | ((with_reducible refine gate_callee (f := 80) rfl ?_); refine goesL_ (some 19) rfl rfl Try.func80 (by kernel_rfl) rfl #[.slice A1_0 l1_0.length c1_0] rfl (by (try simp only [List.map_toArray, List.map_cons, List.map_nil]); first | done | rfl | (simp only [List.length_drop, List.length_take]; rfl)) ?_; (with_reducible refine (slices_Clone_int_int.calls _ _ l1_0 t517 _ ?side1 ?side2 A6.out).mono ?_); (case side1 => repeat (first | exact (Kd.C_below HR1_0.out HB.out) | (with_reducible refine Kd.C_alloc ?_ _) | (with_reducible refine Kd.C_drewN ?_ _) | (with_reducible refine Kd.C_drew ?_))); (case side2 => exact HC1_0.out); rintro e w21 ⟨v518, rfl, ho0, hb⟩; refine ⟨_, rfl, ?_⟩; have n0_ := Aside0.mk (Kd.R_lower ho0 (below_size (bs HB.out))); have n1_ := Aside0.mk (blk_below (bg BK512.out) hb); have n2_ := Aside0.mk (blk_below (bg BK513.out) hb); have n3_ := Aside0.mk (blk_below (bg BK514.out) hb); have n4_ := Aside0.mk (blk_below (bg BK515.out) hb); have n5_ := Aside0.mk (below_step (bs HB.out) hb); clear BK512; clear BK513; clear BK514; clear BK515; clear HB; have HO519 := n0_; have BK512 := n1_; have BK513 := n2_; have BK514 := n3_; have BK515 := n4_; have HB := n5_; clear n0_ n1_ n2_ n3_ n4_ n5_; (try clear hb); (try clear hb2); (try clear hk); (try clear hi); (try clear ho0); have hcz22_0 : w21.cell? ⟨gb512, 0, none⟩ = some (.slice A0_0 l0_0.length c0_0) := (blk_cell BK512.out 0).trans rfl; have hfz22_0 := blk_frozen BK512.out 0; have hcz23_0 : w21.cell? ⟨gb513, 0, none⟩ = some (.slice A1_0 l1_0.length c1_0) := (blk_cell BK513.out 0).trans rfl; have hfz23_0 := blk_frozen BK513.out 0) | ((with_reducible refine gate_callee (f := 81) rfl ?_); refine goesL_ (some 22) rfl rfl Try.func81 (by kernel_rfl) rfl #[.agg #[.slice A0_0 l0_0.length c0_0], .agg #[.slice A1_0 l1_0.length c1_0]] rfl (by (try simp only [List.map_toArray, List.map_cons, List.map_nil]); first | done | rfl | (simp only [List.length_drop, List.length_take]; rfl)) ?_; (with_reducible refine (online_valid.calls k _ _ l0_0 _ _ l1_0 t520 _ ?side1 ?side2 ?side3 ?side4 A7.out).mono ?_); (case side1 => repeat (first | exact (Kd.C_below HR0_0.out HB.out) | (with_reducible refine Kd.C_alloc ?_ _) | (with_reducible refine Kd.C_drewN ?_ _) | (with_reducible refine Kd.C_drew ?_))); (case side2 => exact HC0_0.out); (case side3 => repeat (first | exact (Kd.C_below HR1_0.out HB.out) | (with_reducible refine Kd.C_alloc ?_ _) | (with_reducible refine Kd.C_drewN ?_ _) | (with_reducible refine Kd.C_drew ?_))); (case side4 => exact HC1_0.out); rintro e w24 ⟨rfl, hb⟩; refine ⟨_, rfl, ?_⟩; have n0_ := Aside0.mk (Kd.R_below (rq HO519.out) hb); have n1_ := Aside0.mk (blk_below (bg BK512.out) hb); have n2_ := Aside0.mk (blk_below (bg BK513.out) hb); have n3_ := Aside0.mk (blk_below (bg BK514.out) hb); have n4_ := Aside0.mk (blk_below (bg BK515.out) hb); have n5_ := Aside0.mk (below_step (bs HB.out) hb); clear HO519; clear BK512; clear BK513; clear BK514; clear BK515; clear HB; have HO519 := n0_; have BK512 := n1_; have BK513 := n2_; have BK514 := n3_; have BK515 := n4_; have HB := n5_; clear n0_ n1_ n2_ n3_ n4_ n5_; (try clear hb); (try clear hb2); (try clear hk); (try clear hi)))
  (try simp only [Act.put, List.setIfInBounds_toArray, List.set_cons_zero, List.set_cons_succ])
  go_cut [8] (fun v8 wc => ∃ (kq : Nat) (x8_7 : List Int), Aside0 (online_Step.j0 kq x8_7 l0_0 a2_0 a2_1 a2_2 a2_3 a2_4 a2_5 a2_6 a2_7 a2_8 = some (r1, r2)) ∧ Aside0 (kq ≤ k) ∧ Aside0 (Kd.R (Kd.int .i64) 3 wc w.heap.size (fun _ => True) v8 x8_7) ∧ Aside0 (wc.heap[gb512]? = some (.cells #[(.slice A0_0 l0_0.length c0_0)] 31 (0, 0))) ∧ Aside0 (wc.heap[gb513]? = some (.cells #[(.slice A1_0 l1_0.length c1_0)] 93 (0, 0))) ∧ Aside0 (wc.heap[gb514]? = some (.cells #[.int .i64 a2_0, .int .i64 a2_1, .int .i64 a2_2, .int .i64 a2_3, .int .i64 a2_4, .int .i64 a2_5, .int .i64 a2_6, .string a2_7, .int .i64 a2_8] 46 (0, 0))) ∧ Aside0 (wc.heap[gb515]? = some (.cells #[(.slice none 0 0)] 93 (0, 0))) ∧ Aside0 (Below w.heap.size w wc))
  case first =>
   have H := HC8.out
   clear HC8
   by_cases c25 : t520 = true
   ·
    subst c25
    have H1 : (online_Step.j0 k t517 l0_0 a2_0 a2_1 a2_2 a2_3 a2_4 a2_5 a2_6 a2_7 a2_8) = some (r1, r2) := by rw [if_pos rfl] at H; exact H
    clear H
    have H := H1
    clear H1
    have H' := Aside0.mk H
    clear H
    go_wp2
    go_meet
    case rel => exact ⟨_, (t517), H', ⟨by first | omega | exact Nat.le_refl _⟩, ⟨by (with_reducible repeat (first | apply Kd.R_alloc | apply Kd.R_drewN | apply Kd.R_drew)); exact HO519.out⟩, ⟨bg BK512.out⟩, ⟨bg BK513.out⟩, ⟨bg BK514.out⟩, ⟨bg BK515.out⟩, ⟨bs HB.out⟩⟩
   ·
    replace c25 := Bool.eq_false_iff.mpr c25
    subst c25
    have H1 : ((online_Start.f k l0_0).bind fun t521 => (online_Step.j0 k t521 l0_0 a2_0 a2_1 a2_2 a2_3 a2_4 a2_5 a2_6 a2_7 a2_8)) = some (r1, r2) := by rw [if_neg (show ¬ (false = true) by decide)] at H; exact H
    clear H
    have H := H1
    clear H1
    replace H := Option.bind_eq_some_iff.mp H
    obtain ⟨t521, A260, H⟩ := H
    replace H : (online_Step.j0 k t521 l0_0 a2_0 a2_1 a2_2 a2_3 a2_4 a2_5 a2_6 a2_7 a2_8) = some (r1, r2) := H
    have A26 := Aside0.mk A260
    clear A260
    have H' := Aside0.mk H
    clear H
    have hnb27 := NB512_513.out
    have hnc27 := NB513_512.out
    have hnb28 := NB512_514.out
    have hnc28 := NB514_512.out
    have hnb29 := NB512_515.out
    have hnc29 := NB515_512.out
    have hcz30_0 : w24.cell? ⟨gb512, 0, none⟩ = some (.slice A0_0 l0_0.length c0_0) := (blk_cell BK512.out 0).trans rfl
    have hfz30_0 := blk_frozen BK512.out 0
    have hfd : ∀ (v : Value) (w : World), (Instr.field 93 (.agg #[v]) 0).run Try.prog w = .ok v w := fun _ _ => by kernel_rfl
    go_wp2_with (first | ((with_reducible refine gate_callee (f := 68) rfl ?_); refine goesL_ (some 25) rfl rfl Try.func68 (by kernel_rfl) rfl #[.agg #[.slice A0_0 l0_0.length c0_0]] rfl (by (try simp only [List.map_toArray, List.map_cons, List.map_nil]); first | done | rfl | (simp only [List.length_drop, List.length_take]; rfl)) ?_; (with_reducible refine (online_Start.calls k _ _ l0_0 t521 _ ?side1 ?side2 A26.out).mono ?_); (case side1 => repeat (first | exact (Kd.C_below HR0_0.out HB.out) | (with_reducible refine Kd.C_alloc ?_ _) | (with_reducible refine Kd.C_drewN ?_ _) | (with_reducible refine Kd.C_drew ?_))); (case side2 => exact HC0_0.out); rintro e w31 ⟨v522, rfl, ho0, hb⟩; refine ⟨_, rfl, ?_⟩; have n0_ := Aside0.mk (Kd.R_elder' (rq HO519.out) (Kd.R_base ho0) hb); have n1_ := Aside0.mk (Kd.R_lower (Kd.R_new' ho0 (Kd.R_lt (rq HO519.out))) (below_size (bs HB.out))); have n2_ := Aside0.mk (blk_below (bg BK512.out) hb); have n3_ := Aside0.mk (blk_below (bg BK513.out) hb); have n4_ := Aside0.mk (blk_below (bg BK514.out) hb); have n5_ := Aside0.mk (blk_below (bg BK515.out) hb); have n6_ := Aside0.mk (below_step (bs HB.out) hb); clear HO519; clear BK512; clear BK513; clear BK514; clear BK515; clear HB; have HO519 := n0_; have HO523 := n1_; have BK512 := n2_; have BK513 := n3_; have BK514 := n4_; have BK515 := n5_; have HB := n6_; clear n0_ n1_ n2_ n3_ n4_ n5_ n6_; (try clear hb); (try clear hb2); (try clear hk); (try clear hi); (try clear ho0)))
    go_meet
    case rel => exact ⟨_, (t521), H', ⟨by first | omega | exact Nat.le_refl _⟩, ⟨by (with_reducible repeat (first | apply Kd.R_alloc | apply Kd.R_drewN | apply Kd.R_drew)); exact Kd.R_mono HO523.out (fun _ hk => trivial)⟩, ⟨bg BK512.out⟩, ⟨bg BK513.out⟩, ⟨bg BK514.out⟩, ⟨bg BK515.out⟩, ⟨bs HB.out⟩⟩
  case rest =>
   clear HC8
   try clear c1
   try clear c2
   try clear p2
   try clear c5
   try clear c5b0
   try clear c5b1
   try clear c6
   try clear c8
   try clear c13
   try clear c14
   try clear c15
   try clear c18
   try clear c19
   try clear c20
   try clear c25
   try clear c27
   try clear c28
   try clear c29
   try clear hcz16_0
   try clear hcz20_0
   try clear hcz22_0
   try clear hcz23_0
   try clear hcz30_0
   try clear hfz16_0
   try clear hfz20_0
   try clear hfz22_0
   try clear hfz23_0
   try clear hfz30_0
   obtain ⟨kq, x8_7, HA, HJ7, HO_8, BK512, BK513, BK514, BK515, HB⟩ := hcut
   cases kq with
   | zero => exact absurd HA.out (by simp [online_Step.j0])
   | succ kj7 =>
    have H := HA.out
    clear HA
    simp only [online_Step.j0] at H
    have HC32 := Aside0.mk H
    clear H
    go_upto_region 6 with (fail)
    go_cut [34] (fun v34 wc => ∃ (kq : Nat) (x34_31 : Bool), v34 = .bool x34_31 ∧ Aside0 (online_Step.j1 kq x8_7 x34_31 l0_0 a2_0 a2_1 a2_2 a2_3 a2_4 a2_5 a2_6 a2_7 a2_8 = some (r1, r2)) ∧ Aside0 (kq ≤ kj7) ∧ Aside0 (Kd.R (Kd.int .i64) 3 wc w.heap.size (fun _ => True) u8 x8_7) ∧ Aside0 (wc.heap[gb512]? = some (.cells #[(.slice A0_0 l0_0.length c0_0)] 31 (0, 0))) ∧ Aside0 (wc.heap[gb513]? = some (.cells #[(.slice A1_0 l1_0.length c1_0)] 93 (0, 0))) ∧ Aside0 (wc.heap[gb514]? = some (.cells #[.int .i64 a2_0, .int .i64 a2_1, .int .i64 a2_2, .int .i64 a2_3, .int .i64 a2_4, .int .i64 a2_5, .int .i64 a2_6, .string a2_7, .int .i64 a2_8] 46 (0, 0))) ∧ Aside0 (wc.heap[gb515]? = some (.cells #[(.slice none 0 0)] 93 (0, 0))) ∧ Aside0 (Below w.heap.size w wc))
    case first =>
     have H := HC32.out
     clear HC32
     by_cases c33 : a2_1 < 0
     ·
      rw [if_pos c33] at H
      have c33b0 : decide (a2_1 < 0) = true := decide_eq_true c33
      clear c33
      (first | rw [c33b0] | (simp only [i64_w, i32_w]; rw [c33b0]) | skip)
      have H' := Aside0.mk H
      clear H
      have hnb34 := NB514_512.out
      have hnc34 := NB512_514.out
      have hnb35 := NB514_513.out
      have hnc35 := NB513_514.out
      have hnb36 := NB514_515.out
      have hnc36 := NB515_514.out
      obtain ⟨hcz37_0, hcz37_1, hcz37_2, hcz37_3, hcz37_4, hcz37_5, hcz37_6, hcz37_7, hcz37_8⟩ := bc9 BK514.out
      obtain ⟨hfz37_0, hfz37_1, hfz37_2, hfz37_3, hfz37_4, hfz37_5, hfz37_6, hfz37_7, hfz37_8⟩ := bf9 BK514.out
      go_wp2
      go_meet
      case rel => exact ⟨_, (true), (by first | rfl | (simp; done) | (simp [*]; done)), H', ⟨by have := HJ7.out; first | omega | exact Nat.le_refl _⟩, ⟨by (with_reducible repeat (first | apply Kd.R_alloc | apply Kd.R_drewN | apply Kd.R_drew)); exact HO_8.out⟩, ⟨bg BK512.out⟩, ⟨bg BK513.out⟩, ⟨bg BK514.out⟩, ⟨bg BK515.out⟩, ⟨bs HB.out⟩⟩
     ·
      rw [if_neg c33] at H
      have c33b0 : decide (a2_1 < 0) = false := decide_eq_false c33
      clear c33
      (first | rw [c33b0] | (simp only [i64_w, i32_w]; rw [c33b0]) | skip)
      have H' := Aside0.mk H
      clear H
      have hnb38 := NB514_512.out
      have hnc38 := NB512_514.out
      have hnb39 := NB514_513.out
      have hnc39 := NB513_514.out
      have hnb40 := NB514_515.out
      have hnc40 := NB515_514.out
      obtain ⟨hcz41_0, hcz41_1, hcz41_2, hcz41_3, hcz41_4, hcz41_5, hcz41_6, hcz41_7, hcz41_8⟩ := bc9 BK514.out
      obtain ⟨hfz41_0, hfz41_1, hfz41_2, hfz41_3, hfz41_4, hfz41_5, hfz41_6, hfz41_7, hfz41_8⟩ := bf9 BK514.out
      go_wp2
      go_meet
      case rel => exact ⟨_, (decide (a2_1 > 1099511627776)), (by first | rfl | (simp; done) | (simp [*]; done)), H', ⟨by have := HJ7.out; first | omega | exact Nat.le_refl _⟩, ⟨by (with_reducible repeat (first | apply Kd.R_alloc | apply Kd.R_drewN | apply Kd.R_drew)); exact HO_8.out⟩, ⟨bg BK512.out⟩, ⟨bg BK513.out⟩, ⟨bg BK514.out⟩, ⟨bg BK515.out⟩, ⟨bs HB.out⟩⟩
    case rest =>
     clear HC32
     try clear c1
     try clear c2
     try clear p2
     try clear c3
     try clear c4
     try clear c5
     try clear c5b0
     try clear c5b1
     try clear c6
     try clear c8
     try clear c13
     try clear c14
     try clear c15
     try clear c18
     try clear c19
     try clear c20
     try clear c25
     try clear c27
     try clear c28
     try clear c29
     try clear c33
     try clear c33b0
     try clear c34
     try clear c35
     try clear c36
     try clear c38
     try clear c39
     try clear c40
     try clear hcz16_0
     try clear hcz20_0
     try clear hcz22_0
     try clear hcz23_0
     try clear hcz30_0
     try clear hcz37_0 hcz37_1 hcz37_2 hcz37_3 hcz37_4 hcz37_5 hcz37_6 hcz37_7 hcz37_8
     try clear hcz41_0 hcz41_1 hcz41_2 hcz41_3 hcz41_4 hcz41_5 hcz41_6 hcz41_7 hcz41_8
     try clear hfz16_0
     try clear hfz20_0
     try clear hfz22_0
     try clear hfz23_0
     try clear hfz30_0
     try clear hfz37_0 hfz37_1 hfz37_2 hfz37_3 hfz37_4 hfz37_5 hfz37_6 hfz37_7 hfz37_8
     try clear hfz41_0 hfz41_1 hfz41_2 hfz41_3 hfz41_4 hfz41_5 hfz41_6 hfz41_7 hfz41_8
     try clear p2
     obtain ⟨kq, x34_31, rfl, HA, HJ31, HO_8, BK512, BK513, BK514, BK515, HB⟩ := hcut
     cases kq with
     | zero => exact absurd HA.out (by simp [online_Step.j1])
     | succ kj31 =>
      have H := HA.out
      clear HA
      simp only [online_Step.j1] at H
      by_cases c42 : x34_31 = true
      ·
       subst c42
       have H1 : (some (x8_7, false)) = some (r1, r2) := by rw [if_pos rfl] at H; exact H
       clear H
       have H := H1
       clear H1
       simp only [Option.some.injEq, Prod.mk.injEq] at H
       obtain ⟨rfl, rfl⟩ := H
       obtain ⟨Ao43, co43, eo43⟩ := Kd.R_slice HO_8.out
       subst eo43
       have hnb44 := NB515_512.out
       have hnc44 := NB512_515.out
       have hnb45 := NB515_513.out
       have hnc45 := NB513_515.out
       have hnb46 := NB515_514.out
       have hnc46 := NB514_515.out
       have hcz47_0 : wc.cell? ⟨gb515, 0, none⟩ = some (.slice none 0 0) := (blk_cell BK515.out 0).trans rfl
       have hfz47_0 := blk_frozen BK515.out 0
       go_wp2
       refine bodyPost_ret (results_ct rfl _ _ gb515 93 #[.slice Ao43 x8_7.length co43] (0, 0) _ rfl (by (with_reducible repeat (first | refine blk_drewN ?_ _ | refine blk_drew ?_ | refine blk_alloc ?_ _)); refine blk_put (cs := #[.slice none 0 0]) ?_ 0 _ rfl; exact bg BK515.out) Try.underlying93 rfl (by kernel_rfl)) rfl ?_
       exact ⟨_, by first | rfl | (simp [errW_none, errW_some] <;> rfl) | (simp [*, errW_none, errW_some] <;> rfl), by (with_reducible repeat (first | apply Kd.R_alloc | apply Kd.R_drewN | apply Kd.R_drew)); exact Kd.R_mono (Kd.R_far (p := ⟨gb515, 0, none⟩) (Kd.R_types HO_8.out BK515.out (by decide)) (fun _ hk => hk.2) (.slice Ao43 x8_7.length co43)) (fun _ hk => trivial), bs HB.out⟩
      ·
       replace c42 := Bool.eq_false_iff.mpr c42
       subst c42
       have H1 : (online_Step.l0 kj31 x8_7 false (l0_0.length : Int) 0 l0_0 a2_0 a2_1 a2_2 a2_3 a2_4 a2_5 a2_6 a2_7 a2_8) = some (r1, r2) := by rw [if_neg (show ¬ (false = true) by decide)] at H; exact H
       clear H
       have H := H1
       clear H1
       have H' := Aside0.mk H
       clear H
       have hnb48 := NB512_513.out
       have hnc48 := NB513_512.out
       have hnb49 := NB512_514.out
       have hnc49 := NB514_512.out
       have hnb50 := NB512_515.out
       have hnc50 := NB515_512.out
       have hcz51_0 : wc.cell? ⟨gb512, 0, none⟩ = some (.slice A0_0 l0_0.length c0_0) := (blk_cell BK512.out 0).trans rfl
       have hfz51_0 := blk_frozen BK512.out 0
       go_wp2
       go_loopg [9, 40] kj31 (fun kq v9 v40 w' => ∃ (x8_3 : List Int) (x9_3 : Bool) (x40_3 : Int), v9 = .bool x9_3 ∧ v40 = .int .i64 x40_3 ∧ Aside0 (online_Step.l0 kq x8_3 x9_3 (l0_0.length : Int) x40_3 l0_0 a2_0 a2_1 a2_2 a2_3 a2_4 a2_5 a2_6 a2_7 a2_8 = some (r1, r2)) ∧ Aside0 (kq ≤ kj31) ∧ Aside0 (Kd.R (Kd.int .i64) 3 w' w.heap.size (fun _ => True) u8 x8_3) ∧ Aside0 (w'.heap[gb512]? = some (.cells #[(.slice A0_0 l0_0.length c0_0)] 31 (0, 0))) ∧ Aside0 (w'.heap[gb513]? = some (.cells #[(.slice A1_0 l1_0.length c1_0)] 93 (0, 0))) ∧ Aside0 (w'.heap[gb514]? = some (.cells #[.int .i64 a2_0, .int .i64 a2_1, .int .i64 a2_2, .int .i64 a2_3, .int .i64 a2_4, .int .i64 a2_5, .int .i64 a2_6, .string a2_7, .int .i64 a2_8] 46 (0, 0))) ∧ Aside0 (w'.heap[gb515]? = some (.cells #[(.slice none 0 0)] 93 (0, 0))) ∧ Aside0 (Below w.heap.size w w'))
       case atStart => exact ⟨(x8_7), (false), (0), (by first | rfl | (simp; done) | (simp [*]; done)), (by first | rfl | (simp; done) | (simp [*]; done)), H', ⟨Nat.le_refl _⟩, ⟨by (with_reducible repeat (first | apply Kd.R_alloc | apply Kd.R_drewN | apply Kd.R_drew)); exact HO_8.out⟩, ⟨bg BK512.out⟩, ⟨bg BK513.out⟩, ⟨bg BK514.out⟩, ⟨bg BK515.out⟩, ⟨bs HB.out⟩⟩
       case round =>
        clear H'
        try clear c1
        try clear c2
        try clear p2
        try clear c3
        try clear c4
        try clear c5
        try clear c5b0
        try clear c5b1
        try clear c6
        try clear c8
        try clear c13
        try clear c14
        try clear c15
        try clear c18
        try clear c19
        try clear c20
        try clear c25
        try clear c27
        try clear c28
        try clear c29
        try clear c33
        try clear c33b0
        try clear c34
        try clear c35
        try clear c36
        try clear c38
        try clear c39
        try clear c40
        try clear c42
        try clear c44
        try clear c45
        try clear c46
        try clear c48
        try clear c49
        try clear c50
        try clear hcz16_0
        try clear hcz20_0
        try clear hcz22_0
        try clear hcz23_0
        try clear hcz30_0
        try clear hcz37_0 hcz37_1 hcz37_2 hcz37_3 hcz37_4 hcz37_5 hcz37_6 hcz37_7 hcz37_8
        try clear hcz41_0 hcz41_1 hcz41_2 hcz41_3 hcz41_4 hcz41_5 hcz41_6 hcz41_7 hcz41_8
        try clear hcz47_0
        try clear hcz51_0
        try clear hfz16_0
        try clear hfz20_0
        try clear hfz22_0
        try clear hfz23_0
        try clear hfz30_0
        try clear hfz37_0 hfz37_1 hfz37_2 hfz37_3 hfz37_4 hfz37_5 hfz37_6 hfz37_7 hfz37_8
        try clear hfz41_0 hfz41_1 hfz41_2 hfz41_3 hfz41_4 hfz41_5 hfz41_6 hfz41_7 hfz41_8
        try clear hfz47_0
        try clear hfz51_0
        try clear p2
        obtain ⟨x8_3, x9_3, x40_3, rfl, rfl, HA, HK3, HO_8, BK512, BK513, BK514, BK515, HB⟩ := hrel
        cases gk with
        | zero => exact absurd HA.out (by simp [online_Step.l0])
        | succ k3 =>
         have H := HA.out
         clear HA
         simp only [online_Step.l0] at H
         by_cases c52 : x40_3 < (l0_0.length : Int)
         ·
          rw [if_pos c52] at H
          have c52b0 : decide (x40_3 < (l0_0.length : Int)) = true := decide_eq_true c52
          clear c52
          replace H := Option.bind_eq_some_iff.mp H
          obtain ⟨t524, A530, H⟩ := H
          replace H : (if (wrap64 ((wrap64 ((l0_0.length : Int) - 1)) - x40_3)) > 0 then (if 0 ≤ (wrap64 ((wrap64 ((l0_0.length : Int) - 1)) - x40_3)) then (if (wrap64 ((wrap64 ((l0_0.length : Int) - 1)) - x40_3)) < (l0_0.length : Int) then (if (rd_T50 l0_0 (wrap64 ((wrap64 ((l0_0.length : Int) - 1)) - x40_3))).f2 = true then ((trigauto_Holds.f k3 ((rd_T50 l0_0 (wrap64 ((wrap64 ((l0_0.length : Int) - 1)) - x40_3))).f3.f0) ((rd_T50 l0_0 (wrap64 ((wrap64 ((l0_0.length : Int) - 1)) - x40_3))).f3.f1) ((rd_T50 l0_0 (wrap64 ((wrap64 ((l0_0.length : Int) - 1)) - x40_3))).f3.f2) ((rd_T50 l0_0 (wrap64 ((wrap64 ((l0_0.length : Int) - 1)) - x40_3))).f3.f3) ((rd_T50 l0_0 (wrap64 ((wrap64 ((l0_0.length : Int) - 1)) - x40_3))).f3.f4) a2_0 a2_1 a2_2 a2_3 a2_4 a2_5 a2_6 a2_7 a2_8).bind fun t527 => (online_Step.j3 k3 x8_3 x9_3 x40_3 (wrap64 ((wrap64 ((l0_0.length : Int) - 1)) - x40_3)) t524 (l0_0.length : Int) x40_3 t527 l0_0 a2_0 a2_1 a2_2 a2_3 a2_4 a2_5 a2_6 a2_7 a2_8)) else (online_Step.j3 k3 x8_3 x9_3 x40_3 (wrap64 ((wrap64 ((l0_0.length : Int) - 1)) - x40_3)) t524 (l0_0.length : Int) x40_3 false l0_0 a2_0 a2_1 a2_2 a2_3 a2_4 a2_5 a2_6 a2_7 a2_8)) else (none)) else (none)) else (online_Step.j3 k3 x8_3 x9_3 x40_3 (wrap64 ((wrap64 ((l0_0.length : Int) - 1)) - x40_3)) t524 (l0_0.length : Int) x40_3 false l0_0 a2_0 a2_1 a2_2 a2_3 a2_4 a2_5 a2_6 a2_7 a2_8)) = some (r1, r2) := H
          have A53 := Aside0.mk A530
          clear A530
          have HC54 := Aside0.mk H
          clear H
          have hnb55 := NB512_513.out
          have hnc55 := NB513_512.out
          have hnb56 := NB512_514.out
          have hnc56 := NB514_512.out
          have hnb57 := NB512_515.out
          have hnc57 := NB515_512.out
          have hcz58_0 : wr.cell? ⟨gb512, 0, none⟩ = some (.slice A0_0 l0_0.length c0_0) := (blk_cell BK512.out 0).trans rfl
          have hfz58_0 := blk_frozen BK512.out 0
          have hnb59 := NB514_513.out
          have hnc59 := NB513_514.out
          have hnb60 := NB514_515.out
          have hnc60 := NB515_514.out
          obtain ⟨hcz61_0, hcz61_1, hcz61_2, hcz61_3, hcz61_4, hcz61_5, hcz61_6, hcz61_7, hcz61_8⟩ := bc9 BK514.out
          obtain ⟨hfz61_0, hfz61_1, hfz61_2, hfz61_3, hfz61_4, hfz61_5, hfz61_6, hfz61_7, hfz61_8⟩ := bf9 BK514.out
          obtain ⟨Ao62, co62, eo62⟩ := Kd.R_slice HO_8.out
          subst eo62
          go_upto_region 14 with (first | ((with_reducible refine gate_callee (f := 82) rfl ?_); refine goesL_ (some 53) rfl rfl Try.func82 (by kernel_rfl) rfl #[.agg #[.slice A0_0 l0_0.length c0_0], .slice Ao62 x8_3.length co62, .int .i64 (wrap64 ((wrap64 ((l0_0.length : Int) - 1)) - x40_3)), .agg #[.int .i64 a2_0, .int .i64 a2_1, .int .i64 a2_2, .int .i64 a2_3, .int .i64 a2_4, .int .i64 a2_5, .int .i64 a2_6, .string a2_7, .int .i64 a2_8]] rfl (by (try simp only [List.map_toArray, List.map_cons, List.map_nil]); first | done | rfl | (simp only [List.length_drop, List.length_take]; rfl)) ?_; (with_reducible refine (online_matched.calls k3 _ _ l0_0 _ _ x8_3 (wrap64 ((wrap64 ((l0_0.length : Int) - 1)) - x40_3)) a2_0 a2_1 a2_2 a2_3 a2_4 a2_5 a2_6 a2_7 a2_8 t524 _ ?side1 ?side2 ?side3 ?side4 A53.out).mono ?_); (case side1 => repeat (first | exact (Kd.C_below HR0_0.out HB.out) | (with_reducible refine Kd.C_alloc ?_ _) | (with_reducible refine Kd.C_drewN ?_ _) | (with_reducible refine Kd.C_drew ?_))); (case side2 => exact HC0_0.out); (case side3 => repeat (first | exact (Kd.R_reads' HO_8.out).2.2 | (with_reducible refine Kd.C_alloc ?_ _) | (with_reducible refine Kd.C_drewN ?_ _) | (with_reducible refine Kd.C_drew ?_))); (case side4 => exact (Kd.R_reads' HO_8.out).2.1); rintro e w63 ⟨rfl, hb⟩; refine ⟨_, rfl, ?_⟩; have n0_ := Aside0.mk (Kd.R_below (rq HO_8.out) hb); have n1_ := Aside0.mk (blk_below (bg BK512.out) hb); have n2_ := Aside0.mk (blk_below (bg BK513.out) hb); have n3_ := Aside0.mk (blk_below (bg BK514.out) hb); have n4_ := Aside0.mk (blk_below (bg BK515.out) hb); have n5_ := Aside0.mk (below_step (bs HB.out) hb); clear HO_8; clear BK512; clear BK513; clear BK514; clear BK515; clear HB; have HO_8 := n0_; have BK512 := n1_; have BK513 := n2_; have BK514 := n3_; have BK515 := n4_; have HB := n5_; clear n0_ n1_ n2_ n3_ n4_ n5_; (try clear hb); (try clear hb2); (try clear hk); (try clear hi)))
          (try simp only [Act.put, List.setIfInBounds_toArray, List.set_cons_zero, List.set_cons_succ])
          go_cut [73] (fun v73 wc => ∃ (kq : Nat) (x73_53 : Bool), v73 = .bool x73_53 ∧ Aside0 (online_Step.j3 kq x8_3 x9_3 x40_3 (wrap64 ((wrap64 ((l0_0.length : Int) - 1)) - x40_3)) t524 (l0_0.length : Int) x40_3 x73_53 l0_0 a2_0 a2_1 a2_2 a2_3 a2_4 a2_5 a2_6 a2_7 a2_8 = some (r1, r2)) ∧ Aside0 (kq ≤ k3) ∧ Aside0 (Kd.R (Kd.int .i64) 3 wc w.heap.size (fun _ => True) (.slice Ao62 x8_3.length co62) x8_3) ∧ Aside0 (wc.heap[gb512]? = some (.cells #[(.slice A0_0 l0_0.length c0_0)] 31 (0, 0))) ∧ Aside0 (wc.heap[gb513]? = some (.cells #[(.slice A1_0 l1_0.length c1_0)] 93 (0, 0))) ∧ Aside0 (wc.heap[gb514]? = some (.cells #[.int .i64 a2_0, .int .i64 a2_1, .int .i64 a2_2, .int .i64 a2_3, .int .i64 a2_4, .int .i64 a2_5, .int .i64 a2_6, .string a2_7, .int .i64 a2_8] 46 (0, 0))) ∧ Aside0 (wc.heap[gb515]? = some (.cells #[(.slice none 0 0)] 93 (0, 0))) ∧ Aside0 (Below w.heap.size w wc))
          case first =>
           have H := HC54.out
           clear HC54
           by_cases c64 : (wrap64 ((wrap64 ((l0_0.length : Int) - 1)) - x40_3)) > 0
           ·
            rw [if_pos c64] at H
            have c64b0 : decide (0 < (wrap64 ((wrap64 ((l0_0.length : Int) - 1)) - x40_3))) = true := decide_eq_true c64
            clear c64
            (first | rw [c64b0] | (simp only [i64_w, i32_w]; rw [c64b0]) | skip)
            obtain ⟨ji65, hji65⟩ : ∃ j_ : Int, (wrap64 ((wrap64 ((l0_0.length : Int) - 1)) - x40_3)) = j_ := ⟨_, rfl⟩
            replace H : (if 0 ≤ (ji65) then (if (ji65) < (l0_0.length : Int) then (if (rd_T50 l0_0 (ji65)).f2 = true then ((trigauto_Holds.f k3 ((rd_T50 l0_0 (ji65)).f3.f0) ((rd_T50 l0_0 (ji65)).f3.f1) ((rd_T50 l0_0 (ji65)).f3.f2) ((rd_T50 l0_0 (ji65)).f3.f3) ((rd_T50 l0_0 (ji65)).f3.f4) a2_0 a2_1 a2_2 a2_3 a2_4 a2_5 a2_6 a2_7 a2_8).bind fun t527 => (online_Step.j3 k3 x8_3 x9_3 x40_3 ji65 t524 (l0_0.length : Int) x40_3 t527 l0_0 a2_0 a2_1 a2_2 a2_3 a2_4 a2_5 a2_6 a2_7 a2_8)) else (online_Step.j3 k3 x8_3 x9_3 x40_3 ji65 t524 (l0_0.length : Int) x40_3 false l0_0 a2_0 a2_1 a2_2 a2_3 a2_4 a2_5 a2_6 a2_7 a2_8)) else (none)) else (none)) = some (r1, r2) := by first | (rw [hji65] at H; exact H) | (simp only [hji65] at H ⊢; exact H)
            (try rw [hji65] at c64b0)
            have hji65w : (IntKind.i64.wrap ((wrap64 ((l0_0.length : Int) - 1)) - x40_3)) = ji65 := (i64_w _).trans hji65
            by_cases c66 : 0 ≤ (ji65)
            ·
             rw [if_pos c66] at H
             have c66b0 : decide (0 ≤ (ji65)) = true := decide_eq_true c66
             clear c66
             by_cases c67 : (ji65) < (l0_0.length : Int)
             ·
              rw [if_pos c67] at H
              have c67b0 : decide ((ji65) < (l0_0.length : Int)) = true := decide_eq_true c67
              clear c67
              obtain ⟨bq68, hbq68⟩ : ∃ b_ : Bool, b_ = ((rd_T50 l0_0 (ji65)).f2) := ⟨_, rfl⟩
              replace H : (if bq68 = true then ((trigauto_Holds.f k3 ((rd_T50 l0_0 (ji65)).f3.f0) ((rd_T50 l0_0 (ji65)).f3.f1) ((rd_T50 l0_0 (ji65)).f3.f2) ((rd_T50 l0_0 (ji65)).f3.f3) ((rd_T50 l0_0 (ji65)).f3.f4) a2_0 a2_1 a2_2 a2_3 a2_4 a2_5 a2_6 a2_7 a2_8).bind fun t527 => (online_Step.j3 k3 x8_3 x9_3 x40_3 ji65 t524 (l0_0.length : Int) x40_3 t527 l0_0 a2_0 a2_1 a2_2 a2_3 a2_4 a2_5 a2_6 a2_7 a2_8)) else (online_Step.j3 k3 x8_3 x9_3 x40_3 ji65 t524 (l0_0.length : Int) x40_3 false l0_0 a2_0 a2_1 a2_2 a2_3 a2_4 a2_5 a2_6 a2_7 a2_8)) = some (r1, r2) := by rw [← hbq68] at H; exact H
              have Nbq68 := Aside0.mk hbq68
              clear hbq68
              by_cases c69 : bq68 = true
              ·
               subst c69
               (try rw [← Nbq68.out] at BK512)
               (try rw [← Nbq68.out] at BK513)
               (try rw [← Nbq68.out] at BK514)
               (try rw [← Nbq68.out] at BK515)
               have H1 : ((trigauto_Holds.f k3 ((rd_T50 l0_0 (ji65)).f3.f0) ((rd_T50 l0_0 (ji65)).f3.f1) ((rd_T50 l0_0 (ji65)).f3.f2) ((rd_T50 l0_0 (ji65)).f3.f3) ((rd_T50 l0_0 (ji65)).f3.f4) a2_0 a2_1 a2_2 a2_3 a2_4 a2_5 a2_6 a2_7 a2_8).bind fun t527 => (online_Step.j3 k3 x8_3 x9_3 x40_3 ji65 t524 (l0_0.length : Int) x40_3 t527 l0_0 a2_0 a2_1 a2_2 a2_3 a2_4 a2_5 a2_6 a2_7 a2_8)) = some (r1, r2) := by rw [if_pos rfl] at H; exact H
               clear H
               have H := H1
               clear H1
               replace H := Option.bind_eq_some_iff.mp H
               obtain ⟨t527, A700, H⟩ := H
               replace H : (online_Step.j3 k3 x8_3 x9_3 x40_3 ji65 t524 (l0_0.length : Int) x40_3 t527 l0_0 a2_0 a2_1 a2_2 a2_3 a2_4 a2_5 a2_6 a2_7 a2_8) = some (r1, r2) := H
               have A70 := Aside0.mk A700
               clear A700
               have H' := Aside0.mk H
               clear H
               try go_wp2
               have n0_ := Aside0.mk (Kd.R_drew HO_8.out)
               have n1_ := Aside0.mk (blk_drew BK512.out)
               have n2_ := Aside0.mk (blk_drew BK513.out)
               have n3_ := Aside0.mk (blk_drew BK514.out)
               have n4_ := Aside0.mk (blk_drew BK515.out)
               have n5_ := Aside0.mk (below_drew1 HB.out)
               clear HO_8
               clear BK512
               clear BK513
               clear BK514
               clear BK515
               clear HB
               have HO_8 := n0_
               have BK512 := n1_
               have BK513 := n2_
               have BK514 := n3_
               have BK515 := n4_
               have HB := n5_
               clear n0_ n1_ n2_ n3_ n4_ n5_
               have p525 : 0 ≤ ((ji65) : Int) := of_decide_eq_true (by first | (with_reducible assumption) | assumption)
               have q525 : (ji65) < (l0_0.length : Int) := of_decide_eq_true (by first | (with_reducible assumption) | assumption)
               obtain ⟨ad525, e525, hx525_0, hx525_1, hx525_2, hx525_3, hx525_4, hx525_5, hx525_6, hx525_7, hx525_8, hx525_9, hx525_10, hx525_11⟩ := at_T50 HR0_0.out (ji65) p525 q525
               have hw525_11 := hx525_11
               have hw525_10 := hx525_10
               have hw525_9 := hx525_9
               have hw525_8 := hx525_8
               have hw525_7 := hx525_7
               have hw525_6 := hx525_6
               have hw525_5 := hx525_5
               have hw525_4 := hx525_4
               have hw525_3 := hx525_3
               have hw525_2 := hx525_2
               have hw525_1 := hx525_1
               have hw525_0 := hx525_0
               (try rw [← Nbq68.out] at hx525_6)
               (try rw [← Nbq68.out] at hw525_6)
               cases e525
               replace hx525_0 := pw_cell_below HB.out hx525_0
               replace hx525_1 := pw_cell_below HB.out hx525_1
               replace hx525_2 := pw_cell_below HB.out hx525_2
               replace hx525_3 := pw_cell_below HB.out hx525_3
               replace hx525_4 := pw_cell_below HB.out hx525_4
               replace hx525_5 := pw_cell_below HB.out hx525_5
               replace hx525_6 := pw_cell_below HB.out hx525_6
               replace hx525_7 := pw_cell_below HB.out hx525_7
               replace hx525_8 := pw_cell_below HB.out hx525_8
               replace hx525_9 := pw_cell_below HB.out hx525_9
               replace hx525_10 := pw_cell_below HB.out hx525_10
               replace hx525_11 := pw_cell_below HB.out hx525_11
               replace p525 := eq_true p525
               replace q525 := eq_true q525
               have p526 : 0 ≤ ((ji65) : Int) := of_decide_eq_true (by first | (with_reducible assumption) | assumption)
               have q526 : (ji65) < (l0_0.length : Int) := of_decide_eq_true (by first | (with_reducible assumption) | assumption)
               obtain ⟨ad526, e526, hx526_0, hx526_1, hx526_2, hx526_3, hx526_4, hx526_5, hx526_6, hx526_7, hx526_8, hx526_9, hx526_10, hx526_11⟩ := at_T50 HR0_0.out (ji65) p526 q526
               have hw526_11 := hx526_11
               have hw526_10 := hx526_10
               have hw526_9 := hx526_9
               have hw526_8 := hx526_8
               have hw526_7 := hx526_7
               have hw526_6 := hx526_6
               have hw526_5 := hx526_5
               have hw526_4 := hx526_4
               have hw526_3 := hx526_3
               have hw526_2 := hx526_2
               have hw526_1 := hx526_1
               have hw526_0 := hx526_0
               (try rw [← Nbq68.out] at hx526_6)
               (try rw [← Nbq68.out] at hw526_6)
               obtain rfl : ad525 = ad526 := (by injection e526)
               replace hx526_0 := pw_cell_below HB.out hx526_0
               replace hx526_1 := pw_cell_below HB.out hx526_1
               replace hx526_2 := pw_cell_below HB.out hx526_2
               replace hx526_3 := pw_cell_below HB.out hx526_3
               replace hx526_4 := pw_cell_below HB.out hx526_4
               replace hx526_5 := pw_cell_below HB.out hx526_5
               replace hx526_6 := pw_cell_below HB.out hx526_6
               replace hx526_7 := pw_cell_below HB.out hx526_7
               replace hx526_8 := pw_cell_below HB.out hx526_8
               replace hx526_9 := pw_cell_below HB.out hx526_9
               replace hx526_10 := pw_cell_below HB.out hx526_10
               replace hx526_11 := pw_cell_below HB.out hx526_11
               replace p526 := eq_true p526
               replace q526 := eq_true q526
               refine start_ (n := 20) (S := fun w' => w'.cell? ⟨gb512, 0, none⟩ = some (.slice (some ad525) l0_0.length c0_0) ∧ w'.cell? ⟨gb514, 0, none⟩ = some (.int .i64 a2_0) ∧ w'.cell? ⟨gb514, 1, none⟩ = some (.int .i64 a2_1) ∧ w'.cell? ⟨gb514, 2, none⟩ = some (.int .i64 a2_2) ∧ w'.cell? ⟨gb514, 3, none⟩ = some (.int .i64 a2_3) ∧ w'.cell? ⟨gb514, 4, none⟩ = some (.int .i64 a2_4) ∧ w'.cell? ⟨gb514, 5, none⟩ = some (.int .i64 a2_5) ∧ w'.cell? ⟨gb514, 6, none⟩ = some (.int .i64 a2_6) ∧ w'.cell? ⟨gb514, 7, none⟩ = some (.string a2_7) ∧ w'.cell? ⟨gb514, 8, none⟩ = some (.int .i64 a2_8) ∧ w'.cell? (ad525.add (((ji65)).toNat * 12)) = some (.int .i64 ((rd_T50 l0_0 (ji65)).f0.f0)) ∧ w'.cell? ⟨(ad525.add (((ji65)).toNat * 12)).block, (ad525.add (((ji65)).toNat * 12)).off + 1, none⟩ = some (.int .i64 ((rd_T50 l0_0 (ji65)).f0.f1)) ∧ w'.cell? ⟨(ad525.add (((ji65)).toNat * 12)).block, (ad525.add (((ji65)).toNat * 12)).off + 2, none⟩ = some (.int .i64 ((rd_T50 l0_0 (ji65)).f0.f2)) ∧ w'.cell? ⟨(ad525.add (((ji65)).toNat * 12)).block, (ad525.add (((ji65)).toNat * 12)).off + 3, none⟩ = some (.int .i64 ((rd_T50 l0_0 (ji65)).f0.f3)) ∧ w'.cell? ⟨(ad525.add (((ji65)).toNat * 12)).block, (ad525.add (((ji65)).toNat * 12)).off + 4, none⟩ = some (.int .i64 ((rd_T50 l0_0 (ji65)).f0.f4)) ∧ w'.cell? ⟨(ad525.add (((ji65)).toNat * 12)).block, (ad525.add (((ji65)).toNat * 12)).off + 5, none⟩ = some (.int .i64 ((rd_T50 l0_0 (ji65)).f1)) ∧ w'.cell? ⟨(ad525.add (((ji65)).toNat * 12)).block, (ad525.add (((ji65)).toNat * 12)).off + 6, none⟩ = some (.bool true) ∧ w'.cell? ⟨(ad525.add (((ji65)).toNat * 12)).block, (ad525.add (((ji65)).toNat * 12)).off + 7, none⟩ = some (.int .i64 ((rd_T50 l0_0 (ji65)).f3.f0)) ∧ w'.cell? ⟨(ad525.add (((ji65)).toNat * 12)).block, (ad525.add (((ji65)).toNat * 12)).off + 8, none⟩ = some (.int .i64 ((rd_T50 l0_0 (ji65)).f3.f1)) ∧ w'.cell? ⟨(ad525.add (((ji65)).toNat * 12)).block, (ad525.add (((ji65)).toNat * 12)).off + 9, none⟩ = some (.int .i64 ((rd_T50 l0_0 (ji65)).f3.f2)) ∧ w'.cell? ⟨(ad525.add (((ji65)).toNat * 12)).block, (ad525.add (((ji65)).toNat * 12)).off + 10, none⟩ = some (.int .i64 ((rd_T50 l0_0 (ji65)).f3.f3)) ∧ w'.cell? ⟨(ad525.add (((ji65)).toNat * 12)).block, (ad525.add (((ji65)).toNat * 12)).off + 11, none⟩ = some (.int .i64 ((rd_T50 l0_0 (ji65)).f3.f4)) ∧ w'.cell? (ad525.add (((ji65)).toNat * 12)) = some (.int .i64 ((rd_T50 l0_0 (ji65)).f0.f0)) ∧ w'.cell? ⟨(ad525.add (((ji65)).toNat * 12)).block, (ad525.add (((ji65)).toNat * 12)).off + 1, none⟩ = some (.int .i64 ((rd_T50 l0_0 (ji65)).f0.f1)) ∧ w'.cell? ⟨(ad525.add (((ji65)).toNat * 12)).block, (ad525.add (((ji65)).toNat * 12)).off + 2, none⟩ = some (.int .i64 ((rd_T50 l0_0 (ji65)).f0.f2)) ∧ w'.cell? ⟨(ad525.add (((ji65)).toNat * 12)).block, (ad525.add (((ji65)).toNat * 12)).off + 3, none⟩ = some (.int .i64 ((rd_T50 l0_0 (ji65)).f0.f3)) ∧ w'.cell? ⟨(ad525.add (((ji65)).toNat * 12)).block, (ad525.add (((ji65)).toNat * 12)).off + 4, none⟩ = some (.int .i64 ((rd_T50 l0_0 (ji65)).f0.f4)) ∧ w'.cell? ⟨(ad525.add (((ji65)).toNat * 12)).block, (ad525.add (((ji65)).toNat * 12)).off + 5, none⟩ = some (.int .i64 ((rd_T50 l0_0 (ji65)).f1)) ∧ w'.cell? ⟨(ad525.add (((ji65)).toNat * 12)).block, (ad525.add (((ji65)).toNat * 12)).off + 6, none⟩ = some (.bool (true)) ∧ w'.cell? ⟨(ad525.add (((ji65)).toNat * 12)).block, (ad525.add (((ji65)).toNat * 12)).off + 7, none⟩ = some (.int .i64 ((rd_T50 l0_0 (ji65)).f3.f0)) ∧ w'.cell? ⟨(ad525.add (((ji65)).toNat * 12)).block, (ad525.add (((ji65)).toNat * 12)).off + 8, none⟩ = some (.int .i64 ((rd_T50 l0_0 (ji65)).f3.f1)) ∧ w'.cell? ⟨(ad525.add (((ji65)).toNat * 12)).block, (ad525.add (((ji65)).toNat * 12)).off + 9, none⟩ = some (.int .i64 ((rd_T50 l0_0 (ji65)).f3.f2)) ∧ w'.cell? ⟨(ad525.add (((ji65)).toNat * 12)).block, (ad525.add (((ji65)).toNat * 12)).off + 10, none⟩ = some (.int .i64 ((rd_T50 l0_0 (ji65)).f3.f3)) ∧ w'.cell? ⟨(ad525.add (((ji65)).toNat * 12)).block, (ad525.add (((ji65)).toNat * 12)).off + 11, none⟩ = some (.int .i64 ((rd_T50 l0_0 (ji65)).f3.f4))) (ds := []) (bsq 0 20) (by kernel_rfl) rfl rfl ⟨(blk_cell BK512.out 0).trans rfl, (blk_cell BK514.out 0).trans rfl, (blk_cell BK514.out 1).trans rfl, (blk_cell BK514.out 2).trans rfl, (blk_cell BK514.out 3).trans rfl, (blk_cell BK514.out 4).trans rfl, (blk_cell BK514.out 5).trans rfl, (blk_cell BK514.out 6).trans rfl, (blk_cell BK514.out 7).trans rfl, (blk_cell BK514.out 8).trans rfl, ((HB.out.cell (World.block_lt_of_cell? w _ hw525_0)).trans hw525_0), ((HB.out.cell (World.block_lt_of_cell? w _ hw525_1)).trans hw525_1), ((HB.out.cell (World.block_lt_of_cell? w _ hw525_2)).trans hw525_2), ((HB.out.cell (World.block_lt_of_cell? w _ hw525_3)).trans hw525_3), ((HB.out.cell (World.block_lt_of_cell? w _ hw525_4)).trans hw525_4), ((HB.out.cell (World.block_lt_of_cell? w _ hw525_5)).trans hw525_5), ((HB.out.cell (World.block_lt_of_cell? w _ hw525_6)).trans hw525_6), ((HB.out.cell (World.block_lt_of_cell? w _ hw525_7)).trans hw525_7), ((HB.out.cell (World.block_lt_of_cell? w _ hw525_8)).trans hw525_8), ((HB.out.cell (World.block_lt_of_cell? w _ hw525_9)).trans hw525_9), ((HB.out.cell (World.block_lt_of_cell? w _ hw525_10)).trans hw525_10), ((HB.out.cell (World.block_lt_of_cell? w _ hw525_11)).trans hw525_11), ((HB.out.cell (World.block_lt_of_cell? w _ hw526_0)).trans hw526_0), ((HB.out.cell (World.block_lt_of_cell? w _ hw526_1)).trans hw526_1), ((HB.out.cell (World.block_lt_of_cell? w _ hw526_2)).trans hw526_2), ((HB.out.cell (World.block_lt_of_cell? w _ hw526_3)).trans hw526_3), ((HB.out.cell (World.block_lt_of_cell? w _ hw526_4)).trans hw526_4), ((HB.out.cell (World.block_lt_of_cell? w _ hw526_5)).trans hw526_5), ((HB.out.cell (World.block_lt_of_cell? w _ hw526_6)).trans hw526_6), ((HB.out.cell (World.block_lt_of_cell? w _ hw526_7)).trans hw526_7), ((HB.out.cell (World.block_lt_of_cell? w _ hw526_8)).trans hw526_8), ((HB.out.cell (World.block_lt_of_cell? w _ hw526_9)).trans hw526_9), ((HB.out.cell (World.block_lt_of_cell? w _ hw526_10)).trans hw526_10), ((HB.out.cell (World.block_lt_of_cell? w _ hw526_11)).trans hw526_11)⟩ (fun hHeld => ?_); refine with_tabW online_Step.tab14 online_Step.bits14 (fun HT_ HW_ => ?_)
               generalize w63.drew = w71 at HO_8 BK512 BK513 BK514 BK515 HB hx525_0 hx525_1 hx525_10 hx525_11 hx525_2 hx525_3 hx525_4 hx525_5 hx525_6 hx525_7 hx525_8 hx525_9 hx526_0 hx526_1 hx526_10 hx526_11 hx526_2 hx526_3 hx526_4 hx526_5 hx526_6 hx526_7 hx526_8 hx526_9 hHeld ⊢
               refine pu 0 54 (bsq 1 19) ?_
               refine pu 1 55 (bsq 2 18) ?_
               refine pu 2 56 (bsq 3 17) ?_
               refine pu 3 57 (bsq 4 16) ?_
               refine pu 5 59 (bls [4, 1, 1, 14]) ?_
               refine tk 4 58 (bsq 6 14) hHeld ?_ (he := by rintro w' ⟨s0, s1, s2, s3, s4, s5, s6, s7, s8, s9, s10, s11, s12, s13, s14, s15, s16, s17, s18, s19, s20, s21, s22, s23, s24, s25, s26, s27, s28, s29, s30, s31, s32, s33⟩; go_simp; with_reducible rfl)
               refine pu 6 60 (bsq 7 13) ?_
               refine pu 7 61 (bsq 8 12) ?_
               refine tk 8 62 (bsq 9 11) hHeld ?_ (he := by rintro w' ⟨s0, s1, s2, s3, s4, s5, s6, s7, s8, s9, s10, s11, s12, s13, s14, s15, s16, s17, s18, s19, s20, s21, s22, s23, s24, s25, s26, s27, s28, s29, s30, s31, s32, s33⟩; go_simp; with_reducible rfl)
               refine pu 9 63 (bsq 10 10) ?_
               refine pu 10 64 (bsq 11 9) ?_
               refine pu 11 65 (bsq 12 8) ?_
               refine pu 13 67 (bls [12, 1, 1, 6]) ?_
               refine tk 12 66 (bsq 14 6) hHeld ?_ (he := by rintro w' ⟨s0, s1, s2, s3, s4, s5, s6, s7, s8, s9, s10, s11, s12, s13, s14, s15, s16, s17, s18, s19, s20, s21, s22, s23, s24, s25, s26, s27, s28, s29, s30, s31, s32, s33⟩; go_simp; with_reducible rfl)
               refine pu 14 68 (bsq 15 5) ?_
               refine pu 15 69 (bsq 16 4) ?_
               refine tk 16 70 (bsq 17 3) hHeld ?_ (he := by rintro w' ⟨s0, s1, s2, s3, s4, s5, s6, s7, s8, s9, s10, s11, s12, s13, s14, s15, s16, s17, s18, s19, s20, s21, s22, s23, s24, s25, s26, s27, s28, s29, s30, s31, s32, s33⟩; go_simp; with_reducible rfl)
               refine tk 17 71 (bsq 18 2) hHeld ?_ (he := by rintro w' ⟨s0, s1, s2, s3, s4, s5, s6, s7, s8, s9, s10, s11, s12, s13, s14, s15, s16, s17, s18, s19, s20, s21, s22, s23, s24, s25, s26, s27, s28, s29, s30, s31, s32, s33⟩; go_simp; with_reducible rfl)
               refine one_ (i := 18) (N := some 72) (bsq 19 1) rfl rfl (one_of HT_.out (by kernel_rfl)) (by decide) (fun K hK => ?_)
               refine goes_ Try.func23 (by kernel_rfl) rfl #[.agg #[.int .i64 ((rd_T50 l0_0 (ji65)).f3.f0), .int .i64 ((rd_T50 l0_0 (ji65)).f3.f1), .int .i64 ((rd_T50 l0_0 (ji65)).f3.f2), .int .i64 ((rd_T50 l0_0 (ji65)).f3.f3), .int .i64 ((rd_T50 l0_0 (ji65)).f3.f4)], .agg #[.int .i64 a2_0, .int .i64 a2_1, .int .i64 a2_2, .int .i64 a2_3, .int .i64 a2_4, .int .i64 a2_5, .int .i64 a2_6, .string a2_7, .int .i64 a2_8]] (by rfl) rfl rfl (by (try simp only [List.map_toArray, List.map_cons, List.map_nil]); first | done | (simp only [hji65]; rfl) | rfl | (simp only [List.length_drop, List.length_take]; rfl)) ?_
               with_reducible refine (trigauto_Holds.calls k3 ((rd_T50 l0_0 (ji65)).f3.f0) ((rd_T50 l0_0 (ji65)).f3.f1) ((rd_T50 l0_0 (ji65)).f3.f2) ((rd_T50 l0_0 (ji65)).f3.f3) ((rd_T50 l0_0 (ji65)).f3.f4) a2_0 a2_1 a2_2 a2_3 a2_4 a2_5 a2_6 a2_7 a2_8 t527 _ A70.out).mono ?_
               rintro e w72 ⟨rfl, hb⟩
               refine ⟨_, rfl, ?_⟩
               have n0_ := Aside0.mk (Kd.R_below (rq HO_8.out) hb)
               have n1_ := Aside0.mk (blk_below (bg BK512.out) hb)
               have n2_ := Aside0.mk (blk_below (bg BK513.out) hb)
               have n3_ := Aside0.mk (blk_below (bg BK514.out) hb)
               have n4_ := Aside0.mk (blk_below (bg BK515.out) hb)
               have n5_ := Aside0.mk (below_step (bs HB.out) hb)
               clear HO_8
               clear BK512
               clear BK513
               clear BK514
               clear BK515
               clear HB
               have HO_8 := n0_
               have BK512 := n1_
               have BK513 := n2_
               have BK514 := n3_
               have BK515 := n4_
               have HB := n5_
               clear n0_ n1_ n2_ n3_ n4_ n5_
               (try clear hb)
               (try clear hb2)
               (try clear hk)
               (try clear hi)
               refine hK.out _ _ ⟨(blk_cell BK512.out 0).trans rfl, (blk_cell BK514.out 0).trans rfl, (blk_cell BK514.out 1).trans rfl, (blk_cell BK514.out 2).trans rfl, (blk_cell BK514.out 3).trans rfl, (blk_cell BK514.out 4).trans rfl, (blk_cell BK514.out 5).trans rfl, (blk_cell BK514.out 6).trans rfl, (blk_cell BK514.out 7).trans rfl, (blk_cell BK514.out 8).trans rfl, ((HB.out.cell (World.block_lt_of_cell? w _ hw525_0)).trans hw525_0), ((HB.out.cell (World.block_lt_of_cell? w _ hw525_1)).trans hw525_1), ((HB.out.cell (World.block_lt_of_cell? w _ hw525_2)).trans hw525_2), ((HB.out.cell (World.block_lt_of_cell? w _ hw525_3)).trans hw525_3), ((HB.out.cell (World.block_lt_of_cell? w _ hw525_4)).trans hw525_4), ((HB.out.cell (World.block_lt_of_cell? w _ hw525_5)).trans hw525_5), ((HB.out.cell (World.block_lt_of_cell? w _ hw525_6)).trans hw525_6), ((HB.out.cell (World.block_lt_of_cell? w _ hw525_7)).trans hw525_7), ((HB.out.cell (World.block_lt_of_cell? w _ hw525_8)).trans hw525_8), ((HB.out.cell (World.block_lt_of_cell? w _ hw525_9)).trans hw525_9), ((HB.out.cell (World.block_lt_of_cell? w _ hw525_10)).trans hw525_10), ((HB.out.cell (World.block_lt_of_cell? w _ hw525_11)).trans hw525_11), ((HB.out.cell (World.block_lt_of_cell? w _ hw526_0)).trans hw526_0), ((HB.out.cell (World.block_lt_of_cell? w _ hw526_1)).trans hw526_1), ((HB.out.cell (World.block_lt_of_cell? w _ hw526_2)).trans hw526_2), ((HB.out.cell (World.block_lt_of_cell? w _ hw526_3)).trans hw526_3), ((HB.out.cell (World.block_lt_of_cell? w _ hw526_4)).trans hw526_4), ((HB.out.cell (World.block_lt_of_cell? w _ hw526_5)).trans hw526_5), ((HB.out.cell (World.block_lt_of_cell? w _ hw526_6)).trans hw526_6), ((HB.out.cell (World.block_lt_of_cell? w _ hw526_7)).trans hw526_7), ((HB.out.cell (World.block_lt_of_cell? w _ hw526_8)).trans hw526_8), ((HB.out.cell (World.block_lt_of_cell? w _ hw526_9)).trans hw526_9), ((HB.out.cell (World.block_lt_of_cell? w _ hw526_10)).trans hw526_10), ((HB.out.cell (World.block_lt_of_cell? w _ hw526_11)).trans hw526_11)⟩ (fun hHeld => ?_)
               clear hK K
               refine norm_ (a' := ?_) ?_ ?_
               rotate_left
               ·
                show Act.put _ (some 72) _ = _
                simp only [Act.put, List.setIfInBounds_toArray, List.set_cons_zero, List.set_cons_succ, i64_w, i32_w]
                rfl
               refine pu 19 73 (bsq 20 0) ?_
               refine done_ (done_of HT_.out (by kernel_rfl)) ?_
               try go_wp2
               subst hji65
               go_meet
               case rel => exact ⟨_, (t527), (by first | rfl | (simp; done) | (simp [*]; done)), H', ⟨by have := HJ7.out; have := HJ31.out; have := HK3.out; first | omega | exact Nat.le_refl _⟩, ⟨by (with_reducible repeat (first | apply Kd.R_alloc | apply Kd.R_drewN | apply Kd.R_drew)); exact HO_8.out⟩, ⟨bg BK512.out⟩, ⟨bg BK513.out⟩, ⟨bg BK514.out⟩, ⟨bg BK515.out⟩, ⟨bs HB.out⟩⟩
              ·
               replace c69 := Bool.eq_false_iff.mpr c69
               subst c69
               have H1 : (online_Step.j3 k3 x8_3 x9_3 x40_3 ji65 t524 (l0_0.length : Int) x40_3 false l0_0 a2_0 a2_1 a2_2 a2_3 a2_4 a2_5 a2_6 a2_7 a2_8) = some (r1, r2) := by rw [if_neg (show ¬ (false = true) by decide)] at H; exact H
               clear H
               have H := H1
               clear H1
               have H' := Aside0.mk H
               clear H
               try go_wp2
               have n0_ := Aside0.mk (Kd.R_drew HO_8.out)
               have n1_ := Aside0.mk (blk_drew BK512.out)
               have n2_ := Aside0.mk (blk_drew BK513.out)
               have n3_ := Aside0.mk (blk_drew BK514.out)
               have n4_ := Aside0.mk (blk_drew BK515.out)
               have n5_ := Aside0.mk (below_drew1 HB.out)
               clear HO_8
               clear BK512
               clear BK513
               clear BK514
               clear BK515
               clear HB
               have HO_8 := n0_
               have BK512 := n1_
               have BK513 := n2_
               have BK514 := n3_
               have BK515 := n4_
               have HB := n5_
               clear n0_ n1_ n2_ n3_ n4_ n5_
               have p525 : 0 ≤ ((ji65) : Int) := of_decide_eq_true (by first | (with_reducible assumption) | assumption)
               have q525 : (ji65) < (l0_0.length : Int) := of_decide_eq_true (by first | (with_reducible assumption) | assumption)
               obtain ⟨ad525, e525, hx525_0, hx525_1, hx525_2, hx525_3, hx525_4, hx525_5, hx525_6, hx525_7, hx525_8, hx525_9, hx525_10, hx525_11⟩ := at_T50 HR0_0.out (ji65) p525 q525
               have hw525_11 := hx525_11
               have hw525_10 := hx525_10
               have hw525_9 := hx525_9
               have hw525_8 := hx525_8
               have hw525_7 := hx525_7
               have hw525_6 := hx525_6
               have hw525_5 := hx525_5
               have hw525_4 := hx525_4
               have hw525_3 := hx525_3
               have hw525_2 := hx525_2
               have hw525_1 := hx525_1
               have hw525_0 := hx525_0
               (try rw [← Nbq68.out] at hx525_6)
               (try rw [← Nbq68.out] at hw525_6)
               cases e525
               replace hx525_0 := pw_cell_below HB.out hx525_0
               replace hx525_1 := pw_cell_below HB.out hx525_1
               replace hx525_2 := pw_cell_below HB.out hx525_2
               replace hx525_3 := pw_cell_below HB.out hx525_3
               replace hx525_4 := pw_cell_below HB.out hx525_4
               replace hx525_5 := pw_cell_below HB.out hx525_5
               replace hx525_6 := pw_cell_below HB.out hx525_6
               replace hx525_7 := pw_cell_below HB.out hx525_7
               replace hx525_8 := pw_cell_below HB.out hx525_8
               replace hx525_9 := pw_cell_below HB.out hx525_9
               replace hx525_10 := pw_cell_below HB.out hx525_10
               replace hx525_11 := pw_cell_below HB.out hx525_11
               replace p525 := eq_true p525
               replace q525 := eq_true q525
               refine start_ (n := 20) (S := fun w' => w'.cell? ⟨gb512, 0, none⟩ = some (.slice (some ad525) l0_0.length c0_0) ∧ w'.cell? (ad525.add (((ji65)).toNat * 12)) = some (.int .i64 ((rd_T50 l0_0 (ji65)).f0.f0)) ∧ w'.cell? ⟨(ad525.add (((ji65)).toNat * 12)).block, (ad525.add (((ji65)).toNat * 12)).off + 1, none⟩ = some (.int .i64 ((rd_T50 l0_0 (ji65)).f0.f1)) ∧ w'.cell? ⟨(ad525.add (((ji65)).toNat * 12)).block, (ad525.add (((ji65)).toNat * 12)).off + 2, none⟩ = some (.int .i64 ((rd_T50 l0_0 (ji65)).f0.f2)) ∧ w'.cell? ⟨(ad525.add (((ji65)).toNat * 12)).block, (ad525.add (((ji65)).toNat * 12)).off + 3, none⟩ = some (.int .i64 ((rd_T50 l0_0 (ji65)).f0.f3)) ∧ w'.cell? ⟨(ad525.add (((ji65)).toNat * 12)).block, (ad525.add (((ji65)).toNat * 12)).off + 4, none⟩ = some (.int .i64 ((rd_T50 l0_0 (ji65)).f0.f4)) ∧ w'.cell? ⟨(ad525.add (((ji65)).toNat * 12)).block, (ad525.add (((ji65)).toNat * 12)).off + 5, none⟩ = some (.int .i64 ((rd_T50 l0_0 (ji65)).f1)) ∧ w'.cell? ⟨(ad525.add (((ji65)).toNat * 12)).block, (ad525.add (((ji65)).toNat * 12)).off + 6, none⟩ = some (.bool false) ∧ w'.cell? ⟨(ad525.add (((ji65)).toNat * 12)).block, (ad525.add (((ji65)).toNat * 12)).off + 7, none⟩ = some (.int .i64 ((rd_T50 l0_0 (ji65)).f3.f0)) ∧ w'.cell? ⟨(ad525.add (((ji65)).toNat * 12)).block, (ad525.add (((ji65)).toNat * 12)).off + 8, none⟩ = some (.int .i64 ((rd_T50 l0_0 (ji65)).f3.f1)) ∧ w'.cell? ⟨(ad525.add (((ji65)).toNat * 12)).block, (ad525.add (((ji65)).toNat * 12)).off + 9, none⟩ = some (.int .i64 ((rd_T50 l0_0 (ji65)).f3.f2)) ∧ w'.cell? ⟨(ad525.add (((ji65)).toNat * 12)).block, (ad525.add (((ji65)).toNat * 12)).off + 10, none⟩ = some (.int .i64 ((rd_T50 l0_0 (ji65)).f3.f3)) ∧ w'.cell? ⟨(ad525.add (((ji65)).toNat * 12)).block, (ad525.add (((ji65)).toNat * 12)).off + 11, none⟩ = some (.int .i64 ((rd_T50 l0_0 (ji65)).f3.f4))) (ds := []) (bsq 0 20) (by kernel_rfl) rfl rfl ⟨(blk_cell BK512.out 0).trans rfl, ((HB.out.cell (World.block_lt_of_cell? w _ hw525_0)).trans hw525_0), ((HB.out.cell (World.block_lt_of_cell? w _ hw525_1)).trans hw525_1), ((HB.out.cell (World.block_lt_of_cell? w _ hw525_2)).trans hw525_2), ((HB.out.cell (World.block_lt_of_cell? w _ hw525_3)).trans hw525_3), ((HB.out.cell (World.block_lt_of_cell? w _ hw525_4)).trans hw525_4), ((HB.out.cell (World.block_lt_of_cell? w _ hw525_5)).trans hw525_5), ((HB.out.cell (World.block_lt_of_cell? w _ hw525_6)).trans hw525_6), ((HB.out.cell (World.block_lt_of_cell? w _ hw525_7)).trans hw525_7), ((HB.out.cell (World.block_lt_of_cell? w _ hw525_8)).trans hw525_8), ((HB.out.cell (World.block_lt_of_cell? w _ hw525_9)).trans hw525_9), ((HB.out.cell (World.block_lt_of_cell? w _ hw525_10)).trans hw525_10), ((HB.out.cell (World.block_lt_of_cell? w _ hw525_11)).trans hw525_11)⟩ (fun hHeld => ?_); refine with_tabW online_Step.tab14 online_Step.bits14 (fun HT_ HW_ => ?_)
               generalize w63.drew = w73 at HO_8 BK512 BK513 BK514 BK515 HB hx525_0 hx525_1 hx525_10 hx525_11 hx525_2 hx525_3 hx525_4 hx525_5 hx525_6 hx525_7 hx525_8 hx525_9 hHeld ⊢
               refine pu 0 54 (bsq 1 19) ?_
               refine pu 1 55 (bsq 2 18) ?_
               refine pu 2 56 (bsq 3 17) ?_
               refine pu 3 57 (bsq 4 16) ?_
               refine pu 5 59 (bls [4, 1, 1, 14]) ?_
               refine tk 4 58 (bsq 6 14) hHeld ?_ (he := by rintro w' ⟨s0, s1, s2, s3, s4, s5, s6, s7, s8, s9, s10, s11, s12⟩; go_simp; with_reducible rfl)
               refine pu 6 60 (bsq 7 13) ?_
               refine pu 7 61 (bsq 8 12) ?_
               refine tk 8 62 (bsq 9 11) hHeld ?_ (he := by rintro w' ⟨s0, s1, s2, s3, s4, s5, s6, s7, s8, s9, s10, s11, s12⟩; go_simp; with_reducible rfl)
               refine pu 9 63 (bsq 10 10) ?_
               refine pu 10 64 (bsq 11 9) ?_
               refine un 11 65 (bsq 12 8) ?_
               refine un 12 66 (bsq 13 7) ?_
               refine un 13 67 (bsq 14 6) ?_
               refine un 14 68 (bsq 15 5) ?_
               refine un 15 69 (bsq 16 4) ?_
               refine un 16 70 (bsq 17 3) ?_
               refine un 17 71 (bsq 18 2) ?_
               refine un 18 72 (bsq 19 1) ?_
               refine pu 19 73 (bsq 20 0) ?_
               refine done_ (done_of HT_.out (by kernel_rfl)) ?_
               try go_wp2
               subst hji65
               go_meet
               case rel => exact ⟨_, (false), (by first | rfl | (simp; done) | (simp [*]; done)), H', ⟨by have := HJ7.out; have := HJ31.out; have := HK3.out; first | omega | exact Nat.le_refl _⟩, ⟨by (with_reducible repeat (first | apply Kd.R_alloc | apply Kd.R_drewN | apply Kd.R_drew)); exact HO_8.out⟩, ⟨bg BK512.out⟩, ⟨bg BK513.out⟩, ⟨bg BK514.out⟩, ⟨bg BK515.out⟩, ⟨bs HB.out⟩⟩
             ·
              rw [if_neg c67] at H
              exact absurd H (by simp)
            ·
             rw [if_neg c66] at H
             exact absurd H (by simp)
           ·
            rw [if_neg c64] at H
            have c64b0 : decide (0 < (wrap64 ((wrap64 ((l0_0.length : Int) - 1)) - x40_3))) = false := decide_eq_false c64
            clear c64
            (first | rw [c64b0] | (simp only [i64_w, i32_w]; rw [c64b0]) | skip)
            have H' := Aside0.mk H
            clear H
            try go_wp2
            have n0_ := Aside0.mk (Kd.R_drew HO_8.out)
            have n1_ := Aside0.mk (blk_drew BK512.out)
            have n2_ := Aside0.mk (blk_drew BK513.out)
            have n3_ := Aside0.mk (blk_drew BK514.out)
            have n4_ := Aside0.mk (blk_drew BK515.out)
            have n5_ := Aside0.mk (below_drew1 HB.out)
            clear HO_8
            clear BK512
            clear BK513
            clear BK514
            clear BK515
            clear HB
            have HO_8 := n0_
            have BK512 := n1_
            have BK513 := n2_
            have BK514 := n3_
            have BK515 := n4_
            have HB := n5_
            clear n0_ n1_ n2_ n3_ n4_ n5_
            refine start_ (n := 20) (S := fun w' => True) (ds := []) (bsq 0 20) (by kernel_rfl) rfl rfl trivial (fun hHeld => ?_); refine with_tabW online_Step.tab14 online_Step.bits14 (fun HT_ HW_ => ?_)
            generalize w63.drew = w74 at HO_8 BK512 BK513 BK514 BK515 HB hHeld ⊢
            refine pu 0 54 (bsq 1 19) ?_
            refine pu 1 55 (bsq 2 18) ?_
            refine pu 2 56 (bsq 3 17) ?_
            refine un 3 57 (bsq 4 16) ?_
            refine un 4 58 (bsq 5 15) ?_
            refine un 5 59 (bsq 6 14) ?_
            refine un 6 60 (bsq 7 13) ?_
            refine un 7 61 (bsq 8 12) ?_
            refine un 8 62 (bsq 9 11) ?_
            refine pu 9 63 (bsq 10 10) ?_
            refine pu 10 64 (bsq 11 9) ?_
            refine un 11 65 (bsq 12 8) ?_
            refine un 12 66 (bsq 13 7) ?_
            refine un 13 67 (bsq 14 6) ?_
            refine un 14 68 (bsq 15 5) ?_
            refine un 15 69 (bsq 16 4) ?_
            refine un 16 70 (bsq 17 3) ?_
            refine un 17 71 (bsq 18 2) ?_
            refine un 18 72 (bsq 19 1) ?_
            refine pu 19 73 (bsq 20 0) ?_
            refine done_ (done_of HT_.out (by kernel_rfl)) ?_
            try go_wp2
            go_meet
            case rel => exact ⟨_, (false), (by first | rfl | (simp; done) | (simp [*]; done)), H', ⟨by have := HJ7.out; have := HJ31.out; have := HK3.out; first | omega | exact Nat.le_refl _⟩, ⟨by (with_reducible repeat (first | apply Kd.R_alloc | apply Kd.R_drewN | apply Kd.R_drew)); exact HO_8.out⟩, ⟨bg BK512.out⟩, ⟨bg BK513.out⟩, ⟨bg BK514.out⟩, ⟨bg BK515.out⟩, ⟨bs HB.out⟩⟩
          case rest =>
           clear HC54
           try clear c1
           try clear c2
           try clear p2
           try clear p5
           try clear q5
           try clear hx5
           try clear c6
           try clear p6
           try clear q6
           try clear c23
           try clear p52
           try clear q52
           try clear hx52
           try clear c64
           try clear c64b0
           try clear p64
           try clear c66
           try clear c67
           try clear q68
           try clear c69
           try clear hx525_0
           try clear hx525_1
           try clear hx525_10
           try clear hx525_11
           try clear hx525_2
           try clear hx525_3
           try clear hx525_4
           try clear hx525_5
           try clear hx525_6
           try clear hx525_7
           try clear hx525_8
           try clear hx525_9
           try clear hx526_0
           try clear hx526_1
           try clear hx526_10
           try clear hx526_11
           try clear hx526_2
           try clear hx526_3
           try clear hx526_4
           try clear hx526_5
           try clear hx526_6
           try clear hx526_7
           try clear hx526_8
           try clear hx526_9
           try clear p525
           try clear p526
           try clear q525
           try clear q526
           obtain ⟨kq, x73_53, rfl, HA, HJ53, HO_8, BK512, BK513, BK514, BK515, HB⟩ := hcut
           cases kq with
           | zero => exact absurd HA.out (by simp [online_Step.j3])
           | succ kj53 =>
            have H := HA.out
            clear HA
            simp only [online_Step.j3] at H
            by_cases c75 : x73_53 = true
            ·
             subst c75
             have H1 : (if 0 ≤ (wrap64 ((wrap64 ((wrap64 ((l0_0.length : Int) - 1)) - x40_3)) - 1)) then (if (wrap64 ((wrap64 ((wrap64 ((l0_0.length : Int) - 1)) - x40_3)) - 1)) < (x8_3.length : Int) then ((some (x8_3.set ((wrap64 ((wrap64 ((wrap64 ((l0_0.length : Int) - 1)) - x40_3)) - 1)) : Int).toNat (-1) : List Int)).bind fun y528 => (if t524 = true then (if 0 ≤ (wrap64 ((wrap64 ((l0_0.length : Int) - 1)) - x40_3)) then (if (wrap64 ((wrap64 ((l0_0.length : Int) - 1)) - x40_3)) < (x8_3.length : Int) then ((some (y528.set ((wrap64 ((wrap64 ((l0_0.length : Int) - 1)) - x40_3)) : Int).toNat a2_1 : List Int)).bind fun y529 => (if x9_3 = true then (online_Step.l0 kj53 y529 true (l0_0.length : Int) (wrap64 (x40_3 + 1)) l0_0 a2_0 a2_1 a2_2 a2_3 a2_4 a2_5 a2_6 a2_7 a2_8) else (online_Step.l0 kj53 y529 (x40_3 == 0) (l0_0.length : Int) (wrap64 (x40_3 + 1)) l0_0 a2_0 a2_1 a2_2 a2_3 a2_4 a2_5 a2_6 a2_7 a2_8))) else (none)) else (none)) else (online_Step.l0 kj53 y528 x9_3 (l0_0.length : Int) (wrap64 (x40_3 + 1)) l0_0 a2_0 a2_1 a2_2 a2_3 a2_4 a2_5 a2_6 a2_7 a2_8))) else (none)) else (none)) = some (r1, r2) := by rw [if_pos rfl] at H; exact H
             clear H
             have H := H1
             clear H1
             obtain ⟨ji76, hji76⟩ : ∃ j_ : Int, (wrap64 ((wrap64 ((wrap64 ((l0_0.length : Int) - 1)) - x40_3)) - 1)) = j_ := ⟨_, rfl⟩
             replace H : (if 0 ≤ (ji76) then (if (ji76) < (x8_3.length : Int) then ((some (x8_3.set ((ji76) : Int).toNat (-1) : List Int)).bind fun y528 => (if t524 = true then (if 0 ≤ (wrap64 ((wrap64 ((l0_0.length : Int) - 1)) - x40_3)) then (if (wrap64 ((wrap64 ((l0_0.length : Int) - 1)) - x40_3)) < (x8_3.length : Int) then ((some (y528.set ((wrap64 ((wrap64 ((l0_0.length : Int) - 1)) - x40_3)) : Int).toNat a2_1 : List Int)).bind fun y529 => (if x9_3 = true then (online_Step.l0 kj53 y529 true (l0_0.length : Int) (wrap64 (x40_3 + 1)) l0_0 a2_0 a2_1 a2_2 a2_3 a2_4 a2_5 a2_6 a2_7 a2_8) else (online_Step.l0 kj53 y529 (x40_3 == 0) (l0_0.length : Int) (wrap64 (x40_3 + 1)) l0_0 a2_0 a2_1 a2_2 a2_3 a2_4 a2_5 a2_6 a2_7 a2_8))) else (none)) else (none)) else (online_Step.l0 kj53 y528 x9_3 (l0_0.length : Int) (wrap64 (x40_3 + 1)) l0_0 a2_0 a2_1 a2_2 a2_3 a2_4 a2_5 a2_6 a2_7 a2_8))) else (none)) else (none)) = some (r1, r2) := by first | (rw [hji76] at H; exact H) | (simp only [hji76] at H ⊢; exact H)
             have hji76w : (IntKind.i64.wrap ((wrap64 ((wrap64 ((l0_0.length : Int) - 1)) - x40_3)) - 1)) = ji76 := (i64_w _).trans hji76
             by_cases c77 : 0 ≤ (ji76)
             ·
              rw [if_pos c77] at H
              have c77b0 : decide (0 ≤ (ji76)) = true := decide_eq_true c77
              clear c77
              by_cases c78 : (ji76) < (x8_3.length : Int)
              ·
               rw [if_pos c78] at H
               have c78b0 : decide ((ji76) < (x8_3.length : Int)) = true := decide_eq_true c78
               clear c78
               obtain ⟨y528, hy528⟩ : ∃ y_ : List Int, y_ = (x8_3.set ((ji76) : Int).toNat (-1)) := ⟨_, rfl⟩
               replace H : (if t524 = true then (if 0 ≤ (wrap64 ((wrap64 ((l0_0.length : Int) - 1)) - x40_3)) then (if (wrap64 ((wrap64 ((l0_0.length : Int) - 1)) - x40_3)) < (x8_3.length : Int) then ((some (y528.set ((wrap64 ((wrap64 ((l0_0.length : Int) - 1)) - x40_3)) : Int).toNat a2_1 : List Int)).bind fun y529 => (if x9_3 = true then (online_Step.l0 kj53 y529 true (l0_0.length : Int) (wrap64 (x40_3 + 1)) l0_0 a2_0 a2_1 a2_2 a2_3 a2_4 a2_5 a2_6 a2_7 a2_8) else (online_Step.l0 kj53 y529 (x40_3 == 0) (l0_0.length : Int) (wrap64 (x40_3 + 1)) l0_0 a2_0 a2_1 a2_2 a2_3 a2_4 a2_5 a2_6 a2_7 a2_8))) else (none)) else (none)) else (online_Step.l0 kj53 y528 x9_3 (l0_0.length : Int) (wrap64 (x40_3 + 1)) l0_0 a2_0 a2_1 a2_2 a2_3 a2_4 a2_5 a2_6 a2_7 a2_8)) = some (r1, r2) := by first | (rw [hy528]; with_reducible exact H) | (have H2_ := (Option.bind_some _ _).symm.trans H; rw [hy528]; with_reducible exact H2_) | (have H2_ := (Option.bind_some _ _).symm.trans H; with_reducible exact H2_) | with_reducible exact H | (rw [hy528]; exact H) | exact H
               have Ny528 := Aside0.mk hy528
               clear hy528
               by_cases c80 : t524 = true
               ·
                subst c80
                have H1 : (if 0 ≤ (wrap64 ((wrap64 ((l0_0.length : Int) - 1)) - x40_3)) then (if (wrap64 ((wrap64 ((l0_0.length : Int) - 1)) - x40_3)) < (x8_3.length : Int) then ((some (y528.set ((wrap64 ((wrap64 ((l0_0.length : Int) - 1)) - x40_3)) : Int).toNat a2_1 : List Int)).bind fun y529 => (if x9_3 = true then (online_Step.l0 kj53 y529 true (l0_0.length : Int) (wrap64 (x40_3 + 1)) l0_0 a2_0 a2_1 a2_2 a2_3 a2_4 a2_5 a2_6 a2_7 a2_8) else (online_Step.l0 kj53 y529 (x40_3 == 0) (l0_0.length : Int) (wrap64 (x40_3 + 1)) l0_0 a2_0 a2_1 a2_2 a2_3 a2_4 a2_5 a2_6 a2_7 a2_8))) else (none)) else (none)) = some (r1, r2) := by rw [if_pos rfl] at H; exact H
                clear H
                have H := H1
                clear H1
                obtain ⟨ji81, hji81⟩ : ∃ j_ : Int, (wrap64 ((wrap64 ((l0_0.length : Int) - 1)) - x40_3)) = j_ := ⟨_, rfl⟩
                replace H : (if 0 ≤ (ji81) then (if (ji81) < (x8_3.length : Int) then ((some (y528.set ((ji81) : Int).toNat a2_1 : List Int)).bind fun y529 => (if x9_3 = true then (online_Step.l0 kj53 y529 true (l0_0.length : Int) (wrap64 (x40_3 + 1)) l0_0 a2_0 a2_1 a2_2 a2_3 a2_4 a2_5 a2_6 a2_7 a2_8) else (online_Step.l0 kj53 y529 (x40_3 == 0) (l0_0.length : Int) (wrap64 (x40_3 + 1)) l0_0 a2_0 a2_1 a2_2 a2_3 a2_4 a2_5 a2_6 a2_7 a2_8))) else (none)) else (none)) = some (r1, r2) := by first | (rw [hji81] at H; exact H) | (simp only [hji81] at H ⊢; exact H)
                have hji81w : (IntKind.i64.wrap ((wrap64 ((l0_0.length : Int) - 1)) - x40_3)) = ji81 := (i64_w _).trans hji81
                (try rw [hji81] at hji76)
                (try rw [hji81] at hji76w)
                by_cases c82 : 0 ≤ (ji81)
                ·
                 rw [if_pos c82] at H
                 have c82b0 : decide (0 ≤ (ji81)) = true := decide_eq_true c82
                 clear c82
                 by_cases c83 : (ji81) < (x8_3.length : Int)
                 ·
                  rw [if_pos c83] at H
                  have c83b0 : decide ((ji81) < (x8_3.length : Int)) = true := decide_eq_true c83
                  clear c83
                  obtain ⟨y529, hy529⟩ : ∃ y_ : List Int, y_ = (y528.set ((ji81) : Int).toNat a2_1) := ⟨_, rfl⟩
                  replace H : (if x9_3 = true then (online_Step.l0 kj53 y529 true (l0_0.length : Int) (wrap64 (x40_3 + 1)) l0_0 a2_0 a2_1 a2_2 a2_3 a2_4 a2_5 a2_6 a2_7 a2_8) else (online_Step.l0 kj53 y529 (x40_3 == 0) (l0_0.length : Int) (wrap64 (x40_3 + 1)) l0_0 a2_0 a2_1 a2_2 a2_3 a2_4 a2_5 a2_6 a2_7 a2_8)) = some (r1, r2) := by first | (rw [hy529]; with_reducible exact H) | (have H2_ := (Option.bind_some _ _).symm.trans H; rw [hy529]; with_reducible exact H2_) | (have H2_ := (Option.bind_some _ _).symm.trans H; with_reducible exact H2_) | with_reducible exact H | (rw [hy529]; exact H) | exact H
                  have Ny529 := Aside0.mk hy529
                  clear hy529
                  by_cases c85 : x9_3 = true
                  ·
                   subst c85
                   have H1 : (online_Step.l0 kj53 y529 true (l0_0.length : Int) (wrap64 (x40_3 + 1)) l0_0 a2_0 a2_1 a2_2 a2_3 a2_4 a2_5 a2_6 a2_7 a2_8) = some (r1, r2) := by rw [if_pos rfl] at H; exact H
                   clear H
                   have H := H1
                   clear H1
                   have H' := Aside0.mk H
                   clear H
                   have p79 : 0 ≤ ((ji76) : Int) := of_decide_eq_true (by first | (with_reducible assumption) | assumption)
                   have q79 : ((ji76) : Int) < ((x8_3.length : Int) : Int) := of_decide_eq_true (by first | (with_reducible assumption) | assumption)
                   obtain ⟨go79, co79, eo79, gb79, gl79, cl79, HG79⟩ := Kd.R_form HO_8.out (by omega)
                   (first | cases eo79 | (injection eo79 with ea_ en_ ec_; (first | subst ea_ | (injection ea_ with ea_; subst ea_)); subst ec_; clear en_))
                   have GB79 := Aside0.mk gb79
                   have GG79 := Aside0.mk HG79
                   clear gb79 gl79 HG79
                   obtain ⟨hx79_0, hf79_0⟩ := Kd.R_celln 0 HO_8.out ((ji76) : Int) p79 q79
                   replace p79 := eq_true p79
                   replace q79 := eq_true q79
                   have HP86 := Kd.R_putg HO_8.out ((ji76) : Int) (-1)
                   go_wp2_with (first | ((with_reducible refine gate_store (t := 3) (p := 77) rfl ?_); refine store_event (t := 3) (p := 77) (v := ?vo_w87) (w1 := (wc.setCell ⟨go79, ((ji76) : Int).toNat, none⟩ (.int .i64 (-1)))) ?hg ?ho ?hn ?hr ?_; (case ho => rfl); (case hg => rfl); (case hn => rfl); (case hr => first | (go_simp; done) | (go_simp; rfl)); intro w87 hw; have hg : wc.grownBy w87 (some go79) := (by rw [hw]; exact HP86.2); have hp_ : Kd.R (Kd.int .i64) 3 w87 w.heap.size (fun _ => True) (.slice (some ⟨go79, 0, none⟩) x8_3.length co62) y528 := (by rw [hw, Ny528.out]; exact HP86.1); clear HP86; have n0_ := Aside0.mk (hp_); have n1_ := Aside0.mk (blk_grown (g := gb512) (o := .cells #[.slice A0_0 l0_0.length c0_0] 31 (0, 0)) (bg BK512.out) hg (Kd.R_ne HO_8.out BK512.out (by decide))); have n2_ := Aside0.mk (blk_grown (g := gb513) (o := .cells #[.slice A1_0 l1_0.length c1_0] 93 (0, 0)) (bg BK513.out) hg (Kd.R_ne HO_8.out BK513.out (by decide))); have n3_ := Aside0.mk (blk_grown (g := gb514) (o := .cells #[.int .i64 a2_0, .int .i64 a2_1, .int .i64 a2_2, .int .i64 a2_3, .int .i64 a2_4, .int .i64 a2_5, .int .i64 a2_6, .string a2_7, .int .i64 a2_8] 46 (0, 0)) (bg BK514.out) hg (Kd.R_ne HO_8.out BK514.out (by decide))); have n4_ := Aside0.mk (blk_grown (g := gb515) (o := .cells #[.slice none 0 0] 93 (0, 0)) (bg BK515.out) hg (Kd.R_ne HO_8.out BK515.out (by decide))); have n5_ := Aside0.mk ((by rw [hw]; exact below_set (HB.out) GB79.out : Below w.heap.size w w87)); clear HO_8; clear BK512; clear BK513; clear BK514; clear BK515; clear HB; have HO_8 := n0_; have BK512 := n1_; have BK513 := n2_; have BK514 := n3_; have BK515 := n4_; have HB := n5_; clear n0_ n1_ n2_ n3_ n4_ n5_; clear hg hw hp_; have hnb88 := NB514_512.out; have hnc88 := NB512_514.out; have hnb89 := NB514_513.out; have hnc89 := NB513_514.out; have hnb90 := NB514_515.out; have hnc90 := NB515_514.out; obtain ⟨hcz91_0, hcz91_1, hcz91_2, hcz91_3, hcz91_4, hcz91_5, hcz91_6, hcz91_7, hcz91_8⟩ := bc9 BK514.out; obtain ⟨hfz91_0, hfz91_1, hfz91_2, hfz91_3, hfz91_4, hfz91_5, hfz91_6, hfz91_7, hfz91_8⟩ := bf9 BK514.out; have p84 : 0 ≤ ((ji81) : Int) := of_decide_eq_true (by first | (with_reducible assumption) | assumption); have q84 : ((ji81) : Int) < ((x8_3.length : Int) : Int) := of_decide_eq_true (by first | (with_reducible assumption) | assumption); obtain ⟨hx84_0, hf84_0⟩ := Kd.R_celln 0 HO_8.out ((ji81) : Int) p84 q84; replace p84 := eq_true p84; replace q84 := eq_true q84; obtain ⟨hy92_, hz92_⟩ := Kd.R_celln 0 HO_8.out ((ji81) : Int) (of_decide_eq_true (by first | (with_reducible assumption) | assumption)) (of_decide_eq_true (by first | (with_reducible assumption) | assumption)); have HP92 := Kd.R_putg HO_8.out ((ji81) : Int) a2_1) | ((with_reducible refine gate_store (t := 3) (p := 83) rfl ?_); refine store_event (t := 3) (p := 83) (v := ?vo_w93) (w1 := (w87.setCell ⟨go79, ((ji81) : Int).toNat, none⟩ (.int .i64 a2_1))) ?hg ?ho ?hn ?hr ?_; (case ho => rfl); (case hg => rfl); (case hn => rfl); (case hr => first | (go_simp; done) | (go_simp; rfl)); intro w93 hw; have hg : w87.grownBy w93 (some go79) := (by rw [hw]; exact HP92.2); have hp_ : Kd.R (Kd.int .i64) 3 w93 w.heap.size (fun _ => True) (.slice (some ⟨go79, 0, none⟩) x8_3.length co62) y529 := (by rw [hw, Ny529.out]; exact HP92.1); clear HP92; have n0_ := Aside0.mk (hp_); have n1_ := Aside0.mk (blk_grown (g := gb512) (o := .cells #[.slice A0_0 l0_0.length c0_0] 31 (0, 0)) (bg BK512.out) hg (Kd.R_ne HO_8.out BK512.out (by decide))); have n2_ := Aside0.mk (blk_grown (g := gb513) (o := .cells #[.slice A1_0 l1_0.length c1_0] 93 (0, 0)) (bg BK513.out) hg (Kd.R_ne HO_8.out BK513.out (by decide))); have n3_ := Aside0.mk (blk_grown (g := gb514) (o := .cells #[.int .i64 a2_0, .int .i64 a2_1, .int .i64 a2_2, .int .i64 a2_3, .int .i64 a2_4, .int .i64 a2_5, .int .i64 a2_6, .string a2_7, .int .i64 a2_8] 46 (0, 0)) (bg BK514.out) hg (Kd.R_ne HO_8.out BK514.out (by decide))); have n4_ := Aside0.mk (blk_grown (g := gb515) (o := .cells #[.slice none 0 0] 93 (0, 0)) (bg BK515.out) hg (Kd.R_ne HO_8.out BK515.out (by decide))); have n5_ := Aside0.mk ((by rw [hw]; exact below_set (HB.out) GB79.out : Below w.heap.size w w93)); clear HO_8; clear BK512; clear BK513; clear BK514; clear BK515; clear HB; have HO_8 := n0_; have BK512 := n1_; have BK513 := n2_; have BK514 := n3_; have BK515 := n4_; have HB := n5_; clear n0_ n1_ n2_ n3_ n4_ n5_; clear hg hw hp_))
                   go_roundg kj53
                   case measure => have := HJ7.out; have := HJ31.out; have := HK3.out; have := HJ53.out; omega
                   case rel => exact ⟨(y529), (true), (wrap64 (x40_3 + 1)), (by first | rfl | (simp; done) | (simp [*]; done)), (by first | rfl | (simp; done) | (simp [*]; done)), H', ⟨by have := HJ7.out; have := HJ31.out; have := HK3.out; have := HJ53.out; omega⟩, ⟨by (with_reducible repeat (first | apply Kd.R_alloc | apply Kd.R_drewN | apply Kd.R_drew)); exact HO_8.out⟩, ⟨bg BK512.out⟩, ⟨bg BK513.out⟩, ⟨bg BK514.out⟩, ⟨bg BK515.out⟩, ⟨bs HB.out⟩⟩
                  ·
                   replace c85 := Bool.eq_false_iff.mpr c85
                   subst c85
                   have H1 : (online_Step.l0 kj53 y529 (x40_3 == 0) (l0_0.length : Int) (wrap64 (x40_3 + 1)) l0_0 a2_0 a2_1 a2_2 a2_3 a2_4 a2_5 a2_6 a2_7 a2_8) = some (r1, r2) := by rw [if_neg (show ¬ (false = true) by decide)] at H; exact H
                   clear H
                   have H := H1
                   clear H1
                   have H' := Aside0.mk H
                   clear H
                   have p79 : 0 ≤ ((ji76) : Int) := of_decide_eq_true (by first | (with_reducible assumption) | assumption)
                   have q79 : ((ji76) : Int) < ((x8_3.length : Int) : Int) := of_decide_eq_true (by first | (with_reducible assumption) | assumption)
                   obtain ⟨go79, co79, eo79, gb79, gl79, cl79, HG79⟩ := Kd.R_form HO_8.out (by omega)
                   (first | cases eo79 | (injection eo79 with ea_ en_ ec_; (first | subst ea_ | (injection ea_ with ea_; subst ea_)); subst ec_; clear en_))
                   have GB79 := Aside0.mk gb79
                   have GG79 := Aside0.mk HG79
                   clear gb79 gl79 HG79
                   obtain ⟨hx79_0, hf79_0⟩ := Kd.R_celln 0 HO_8.out ((ji76) : Int) p79 q79
                   replace p79 := eq_true p79
                   replace q79 := eq_true q79
                   have HP94 := Kd.R_putg HO_8.out ((ji76) : Int) (-1)
                   go_wp2_with (first | ((with_reducible refine gate_store (t := 3) (p := 77) rfl ?_); refine store_event (t := 3) (p := 77) (v := ?vo_w95) (w1 := (wc.setCell ⟨go79, ((ji76) : Int).toNat, none⟩ (.int .i64 (-1)))) ?hg ?ho ?hn ?hr ?_; (case ho => rfl); (case hg => rfl); (case hn => rfl); (case hr => first | (go_simp; done) | (go_simp; rfl)); intro w95 hw; have hg : wc.grownBy w95 (some go79) := (by rw [hw]; exact HP94.2); have hp_ : Kd.R (Kd.int .i64) 3 w95 w.heap.size (fun _ => True) (.slice (some ⟨go79, 0, none⟩) x8_3.length co62) y528 := (by rw [hw, Ny528.out]; exact HP94.1); clear HP94; have n0_ := Aside0.mk (hp_); have n1_ := Aside0.mk (blk_grown (g := gb512) (o := .cells #[.slice A0_0 l0_0.length c0_0] 31 (0, 0)) (bg BK512.out) hg (Kd.R_ne HO_8.out BK512.out (by decide))); have n2_ := Aside0.mk (blk_grown (g := gb513) (o := .cells #[.slice A1_0 l1_0.length c1_0] 93 (0, 0)) (bg BK513.out) hg (Kd.R_ne HO_8.out BK513.out (by decide))); have n3_ := Aside0.mk (blk_grown (g := gb514) (o := .cells #[.int .i64 a2_0, .int .i64 a2_1, .int .i64 a2_2, .int .i64 a2_3, .int .i64 a2_4, .int .i64 a2_5, .int .i64 a2_6, .string a2_7, .int .i64 a2_8] 46 (0, 0)) (bg BK514.out) hg (Kd.R_ne HO_8.out BK514.out (by decide))); have n4_ := Aside0.mk (blk_grown (g := gb515) (o := .cells #[.slice none 0 0] 93 (0, 0)) (bg BK515.out) hg (Kd.R_ne HO_8.out BK515.out (by decide))); have n5_ := Aside0.mk ((by rw [hw]; exact below_set (HB.out) GB79.out : Below w.heap.size w w95)); clear HO_8; clear BK512; clear BK513; clear BK514; clear BK515; clear HB; have HO_8 := n0_; have BK512 := n1_; have BK513 := n2_; have BK514 := n3_; have BK515 := n4_; have HB := n5_; clear n0_ n1_ n2_ n3_ n4_ n5_; clear hg hw hp_; have hnb96 := NB514_512.out; have hnc96 := NB512_514.out; have hnb97 := NB514_513.out; have hnc97 := NB513_514.out; have hnb98 := NB514_515.out; have hnc98 := NB515_514.out; obtain ⟨hcz99_0, hcz99_1, hcz99_2, hcz99_3, hcz99_4, hcz99_5, hcz99_6, hcz99_7, hcz99_8⟩ := bc9 BK514.out; obtain ⟨hfz99_0, hfz99_1, hfz99_2, hfz99_3, hfz99_4, hfz99_5, hfz99_6, hfz99_7, hfz99_8⟩ := bf9 BK514.out; have p84 : 0 ≤ ((ji81) : Int) := of_decide_eq_true (by first | (with_reducible assumption) | assumption); have q84 : ((ji81) : Int) < ((x8_3.length : Int) : Int) := of_decide_eq_true (by first | (with_reducible assumption) | assumption); obtain ⟨hx84_0, hf84_0⟩ := Kd.R_celln 0 HO_8.out ((ji81) : Int) p84 q84; replace p84 := eq_true p84; replace q84 := eq_true q84; obtain ⟨hy100_, hz100_⟩ := Kd.R_celln 0 HO_8.out ((ji81) : Int) (of_decide_eq_true (by first | (with_reducible assumption) | assumption)) (of_decide_eq_true (by first | (with_reducible assumption) | assumption)); have HP100 := Kd.R_putg HO_8.out ((ji81) : Int) a2_1) | ((with_reducible refine gate_store (t := 3) (p := 83) rfl ?_); refine store_event (t := 3) (p := 83) (v := ?vo_w101) (w1 := (w95.setCell ⟨go79, ((ji81) : Int).toNat, none⟩ (.int .i64 a2_1))) ?hg ?ho ?hn ?hr ?_; (case ho => rfl); (case hg => rfl); (case hn => rfl); (case hr => first | (go_simp; done) | (go_simp; rfl)); intro w101 hw; have hg : w95.grownBy w101 (some go79) := (by rw [hw]; exact HP100.2); have hp_ : Kd.R (Kd.int .i64) 3 w101 w.heap.size (fun _ => True) (.slice (some ⟨go79, 0, none⟩) x8_3.length co62) y529 := (by rw [hw, Ny529.out]; exact HP100.1); clear HP100; have n0_ := Aside0.mk (hp_); have n1_ := Aside0.mk (blk_grown (g := gb512) (o := .cells #[.slice A0_0 l0_0.length c0_0] 31 (0, 0)) (bg BK512.out) hg (Kd.R_ne HO_8.out BK512.out (by decide))); have n2_ := Aside0.mk (blk_grown (g := gb513) (o := .cells #[.slice A1_0 l1_0.length c1_0] 93 (0, 0)) (bg BK513.out) hg (Kd.R_ne HO_8.out BK513.out (by decide))); have n3_ := Aside0.mk (blk_grown (g := gb514) (o := .cells #[.int .i64 a2_0, .int .i64 a2_1, .int .i64 a2_2, .int .i64 a2_3, .int .i64 a2_4, .int .i64 a2_5, .int .i64 a2_6, .string a2_7, .int .i64 a2_8] 46 (0, 0)) (bg BK514.out) hg (Kd.R_ne HO_8.out BK514.out (by decide))); have n4_ := Aside0.mk (blk_grown (g := gb515) (o := .cells #[.slice none 0 0] 93 (0, 0)) (bg BK515.out) hg (Kd.R_ne HO_8.out BK515.out (by decide))); have n5_ := Aside0.mk ((by rw [hw]; exact below_set (HB.out) GB79.out : Below w.heap.size w w101)); clear HO_8; clear BK512; clear BK513; clear BK514; clear BK515; clear HB; have HO_8 := n0_; have BK512 := n1_; have BK513 := n2_; have BK514 := n3_; have BK515 := n4_; have HB := n5_; clear n0_ n1_ n2_ n3_ n4_ n5_; clear hg hw hp_))
                   go_roundg kj53
                   case measure => have := HJ7.out; have := HJ31.out; have := HK3.out; have := HJ53.out; omega
                   case rel => exact ⟨(y529), ((x40_3 == 0)), (wrap64 (x40_3 + 1)), (by first | rfl | (simp; done) | (simp [*]; done)), (by first | rfl | (simp; done) | (simp [*]; done)), H', ⟨by have := HJ7.out; have := HJ31.out; have := HK3.out; have := HJ53.out; omega⟩, ⟨by (with_reducible repeat (first | apply Kd.R_alloc | apply Kd.R_drewN | apply Kd.R_drew)); exact HO_8.out⟩, ⟨bg BK512.out⟩, ⟨bg BK513.out⟩, ⟨bg BK514.out⟩, ⟨bg BK515.out⟩, ⟨bs HB.out⟩⟩
                 ·
                  rw [if_neg c83] at H
                  exact absurd H (by simp)
                ·
                 rw [if_neg c82] at H
                 exact absurd H (by simp)
               ·
                replace c80 := Bool.eq_false_iff.mpr c80
                subst c80
                have H1 : (online_Step.l0 kj53 y528 x9_3 (l0_0.length : Int) (wrap64 (x40_3 + 1)) l0_0 a2_0 a2_1 a2_2 a2_3 a2_4 a2_5 a2_6 a2_7 a2_8) = some (r1, r2) := by rw [if_neg (show ¬ (false = true) by decide)] at H; exact H
                clear H
                have H := H1
                clear H1
                have H' := Aside0.mk H
                clear H
                have p79 : 0 ≤ ((ji76) : Int) := of_decide_eq_true (by first | (with_reducible assumption) | assumption)
                have q79 : ((ji76) : Int) < ((x8_3.length : Int) : Int) := of_decide_eq_true (by first | (with_reducible assumption) | assumption)
                obtain ⟨go79, co79, eo79, gb79, gl79, cl79, HG79⟩ := Kd.R_form HO_8.out (by omega)
                (first | cases eo79 | (injection eo79 with ea_ en_ ec_; (first | subst ea_ | (injection ea_ with ea_; subst ea_)); subst ec_; clear en_))
                have GB79 := Aside0.mk gb79
                have GG79 := Aside0.mk HG79
                clear gb79 gl79 HG79
                obtain ⟨hx79_0, hf79_0⟩ := Kd.R_celln 0 HO_8.out ((ji76) : Int) p79 q79
                replace p79 := eq_true p79
                replace q79 := eq_true q79
                have HP102 := Kd.R_putg HO_8.out ((ji76) : Int) (-1)
                go_wp2_with (first | ((with_reducible refine gate_store (t := 3) (p := 77) rfl ?_); refine store_event (t := 3) (p := 77) (v := ?vo_w103) (w1 := (wc.setCell ⟨go79, ((ji76) : Int).toNat, none⟩ (.int .i64 (-1)))) ?hg ?ho ?hn ?hr ?_; (case ho => rfl); (case hg => rfl); (case hn => rfl); (case hr => first | (go_simp; done) | (go_simp; rfl)); intro w103 hw; have hg : wc.grownBy w103 (some go79) := (by rw [hw]; exact HP102.2); have hp_ : Kd.R (Kd.int .i64) 3 w103 w.heap.size (fun _ => True) (.slice (some ⟨go79, 0, none⟩) x8_3.length co62) y528 := (by rw [hw, Ny528.out]; exact HP102.1); clear HP102; have n0_ := Aside0.mk (hp_); have n1_ := Aside0.mk (blk_grown (g := gb512) (o := .cells #[.slice A0_0 l0_0.length c0_0] 31 (0, 0)) (bg BK512.out) hg (Kd.R_ne HO_8.out BK512.out (by decide))); have n2_ := Aside0.mk (blk_grown (g := gb513) (o := .cells #[.slice A1_0 l1_0.length c1_0] 93 (0, 0)) (bg BK513.out) hg (Kd.R_ne HO_8.out BK513.out (by decide))); have n3_ := Aside0.mk (blk_grown (g := gb514) (o := .cells #[.int .i64 a2_0, .int .i64 a2_1, .int .i64 a2_2, .int .i64 a2_3, .int .i64 a2_4, .int .i64 a2_5, .int .i64 a2_6, .string a2_7, .int .i64 a2_8] 46 (0, 0)) (bg BK514.out) hg (Kd.R_ne HO_8.out BK514.out (by decide))); have n4_ := Aside0.mk (blk_grown (g := gb515) (o := .cells #[.slice none 0 0] 93 (0, 0)) (bg BK515.out) hg (Kd.R_ne HO_8.out BK515.out (by decide))); have n5_ := Aside0.mk ((by rw [hw]; exact below_set (HB.out) GB79.out : Below w.heap.size w w103)); clear HO_8; clear BK512; clear BK513; clear BK514; clear BK515; clear HB; have HO_8 := n0_; have BK512 := n1_; have BK513 := n2_; have BK514 := n3_; have BK515 := n4_; have HB := n5_; clear n0_ n1_ n2_ n3_ n4_ n5_; clear hg hw hp_))
                go_roundg kj53
                case measure => have := HJ7.out; have := HJ31.out; have := HK3.out; have := HJ53.out; omega
                case rel => exact ⟨(y528), (x9_3), (wrap64 (x40_3 + 1)), (by first | rfl | (simp; done) | (simp [*]; done)), (by first | rfl | (simp; done) | (simp [*]; done)), H', ⟨by have := HJ7.out; have := HJ31.out; have := HK3.out; have := HJ53.out; omega⟩, ⟨by (with_reducible repeat (first | apply Kd.R_alloc | apply Kd.R_drewN | apply Kd.R_drew)); exact HO_8.out⟩, ⟨bg BK512.out⟩, ⟨bg BK513.out⟩, ⟨bg BK514.out⟩, ⟨bg BK515.out⟩, ⟨bs HB.out⟩⟩
              ·
               rw [if_neg c78] at H
               exact absurd H (by simp)
             ·
              rw [if_neg c77] at H
              exact absurd H (by simp)
            ·
             replace c75 := Bool.eq_false_iff.mpr c75
             subst c75
             have H1 : (if t524 = true then (if 0 ≤ (wrap64 ((wrap64 ((l0_0.length : Int) - 1)) - x40_3)) then (if (wrap64 ((wrap64 ((l0_0.length : Int) - 1)) - x40_3)) < (x8_3.length : Int) then ((some (x8_3.set ((wrap64 ((wrap64 ((l0_0.length : Int) - 1)) - x40_3)) : Int).toNat a2_1 : List Int)).bind fun y530 => (if x9_3 = true then (online_Step.l0 kj53 y530 true (l0_0.length : Int) (wrap64 (x40_3 + 1)) l0_0 a2_0 a2_1 a2_2 a2_3 a2_4 a2_5 a2_6 a2_7 a2_8) else (online_Step.l0 kj53 y530 (x40_3 == 0) (l0_0.length : Int) (wrap64 (x40_3 + 1)) l0_0 a2_0 a2_1 a2_2 a2_3 a2_4 a2_5 a2_6 a2_7 a2_8))) else (none)) else (none)) else (online_Step.l0 kj53 x8_3 x9_3 (l0_0.length : Int) (wrap64 (x40_3 + 1)) l0_0 a2_0 a2_1 a2_2 a2_3 a2_4 a2_5 a2_6 a2_7 a2_8)) = some (r1, r2) := by rw [if_neg (show ¬ (false = true) by decide)] at H; exact H
             clear H
             have H := H1
             clear H1
             by_cases c104 : t524 = true
             ·
              subst c104
              have H1 : (if 0 ≤ (wrap64 ((wrap64 ((l0_0.length : Int) - 1)) - x40_3)) then (if (wrap64 ((wrap64 ((l0_0.length : Int) - 1)) - x40_3)) < (x8_3.length : Int) then ((some (x8_3.set ((wrap64 ((wrap64 ((l0_0.length : Int) - 1)) - x40_3)) : Int).toNat a2_1 : List Int)).bind fun y530 => (if x9_3 = true then (online_Step.l0 kj53 y530 true (l0_0.length : Int) (wrap64 (x40_3 + 1)) l0_0 a2_0 a2_1 a2_2 a2_3 a2_4 a2_5 a2_6 a2_7 a2_8) else (online_Step.l0 kj53 y530 (x40_3 == 0) (l0_0.length : Int) (wrap64 (x40_3 + 1)) l0_0 a2_0 a2_1 a2_2 a2_3 a2_4 a2_5 a2_6 a2_7 a2_8))) else (none)) else (none)) = some (r1, r2) := by rw [if_pos rfl] at H; exact H
              clear H
              have H := H1
              clear H1
              obtain ⟨ji105, hji105⟩ : ∃ j_ : Int, (wrap64 ((wrap64 ((l0_0.length : Int) - 1)) - x40_3)) = j_ := ⟨_, rfl⟩
              replace H : (if 0 ≤ (ji105) then (if (ji105) < (x8_3.length : Int) then ((some (x8_3.set ((ji105) : Int).toNat a2_1 : List Int)).bind fun y530 => (if x9_3 = true then (online_Step.l0 kj53 y530 true (l0_0.length : Int) (wrap64 (x40_3 + 1)) l0_0 a2_0 a2_1 a2_2 a2_3 a2_4 a2_5 a2_6 a2_7 a2_8) else (online_Step.l0 kj53 y530 (x40_3 == 0) (l0_0.length : Int) (wrap64 (x40_3 + 1)) l0_0 a2_0 a2_1 a2_2 a2_3 a2_4 a2_5 a2_6 a2_7 a2_8))) else (none)) else (none)) = some (r1, r2) := by first | (rw [hji105] at H; exact H) | (simp only [hji105] at H ⊢; exact H)
              have hji105w : (IntKind.i64.wrap ((wrap64 ((l0_0.length : Int) - 1)) - x40_3)) = ji105 := (i64_w _).trans hji105
              by_cases c106 : 0 ≤ (ji105)
              ·
               rw [if_pos c106] at H
               have c106b0 : decide (0 ≤ (ji105)) = true := decide_eq_true c106
               clear c106
               by_cases c107 : (ji105) < (x8_3.length : Int)
               ·
                rw [if_pos c107] at H
                have c107b0 : decide ((ji105) < (x8_3.length : Int)) = true := decide_eq_true c107
                clear c107
                obtain ⟨y530, hy530⟩ : ∃ y_ : List Int, y_ = (x8_3.set ((ji105) : Int).toNat a2_1) := ⟨_, rfl⟩
                replace H : (if x9_3 = true then (online_Step.l0 kj53 y530 true (l0_0.length : Int) (wrap64 (x40_3 + 1)) l0_0 a2_0 a2_1 a2_2 a2_3 a2_4 a2_5 a2_6 a2_7 a2_8) else (online_Step.l0 kj53 y530 (x40_3 == 0) (l0_0.length : Int) (wrap64 (x40_3 + 1)) l0_0 a2_0 a2_1 a2_2 a2_3 a2_4 a2_5 a2_6 a2_7 a2_8)) = some (r1, r2) := by first | (rw [hy530]; with_reducible exact H) | (have H2_ := (Option.bind_some _ _).symm.trans H; rw [hy530]; with_reducible exact H2_) | (have H2_ := (Option.bind_some _ _).symm.trans H; with_reducible exact H2_) | with_reducible exact H | (rw [hy530]; exact H) | exact H
                have Ny530 := Aside0.mk hy530
                clear hy530
                by_cases c109 : x9_3 = true
                ·
                 subst c109
                 have H1 : (online_Step.l0 kj53 y530 true (l0_0.length : Int) (wrap64 (x40_3 + 1)) l0_0 a2_0 a2_1 a2_2 a2_3 a2_4 a2_5 a2_6 a2_7 a2_8) = some (r1, r2) := by rw [if_pos rfl] at H; exact H
                 clear H
                 have H := H1
                 clear H1
                 have H' := Aside0.mk H
                 clear H
                 have hnb110 := NB514_512.out
                 have hnc110 := NB512_514.out
                 have hnb111 := NB514_513.out
                 have hnc111 := NB513_514.out
                 have hnb112 := NB514_515.out
                 have hnc112 := NB515_514.out
                 obtain ⟨hcz113_0, hcz113_1, hcz113_2, hcz113_3, hcz113_4, hcz113_5, hcz113_6, hcz113_7, hcz113_8⟩ := bc9 BK514.out
                 obtain ⟨hfz113_0, hfz113_1, hfz113_2, hfz113_3, hfz113_4, hfz113_5, hfz113_6, hfz113_7, hfz113_8⟩ := bf9 BK514.out
                 have p108 : 0 ≤ ((ji105) : Int) := of_decide_eq_true (by first | (with_reducible assumption) | assumption)
                 have q108 : ((ji105) : Int) < ((x8_3.length : Int) : Int) := of_decide_eq_true (by first | (with_reducible assumption) | assumption)
                 obtain ⟨go108, co108, eo108, gb108, gl108, cl108, HG108⟩ := Kd.R_form HO_8.out (by omega)
                 (first | cases eo108 | (injection eo108 with ea_ en_ ec_; (first | subst ea_ | (injection ea_ with ea_; subst ea_)); subst ec_; clear en_))
                 have GB108 := Aside0.mk gb108
                 have GG108 := Aside0.mk HG108
                 clear gb108 gl108 HG108
                 obtain ⟨hx108_0, hf108_0⟩ := Kd.R_celln 0 HO_8.out ((ji105) : Int) p108 q108
                 replace p108 := eq_true p108
                 replace q108 := eq_true q108
                 have HP114 := Kd.R_putg HO_8.out ((ji105) : Int) a2_1
                 go_wp2_with (first | ((with_reducible refine gate_store (t := 3) (p := 83) rfl ?_); refine store_event (t := 3) (p := 83) (v := ?vo_w115) (w1 := (wc.setCell ⟨go108, ((ji105) : Int).toNat, none⟩ (.int .i64 a2_1))) ?hg ?ho ?hn ?hr ?_; (case ho => rfl); (case hg => rfl); (case hn => rfl); (case hr => first | (go_simp; done) | (go_simp; rfl)); intro w115 hw; have hg : wc.grownBy w115 (some go108) := (by rw [hw]; exact HP114.2); have hp_ : Kd.R (Kd.int .i64) 3 w115 w.heap.size (fun _ => True) (.slice (some ⟨go108, 0, none⟩) x8_3.length co62) y530 := (by rw [hw, Ny530.out]; exact HP114.1); clear HP114; have n0_ := Aside0.mk (hp_); have n1_ := Aside0.mk (blk_grown (g := gb512) (o := .cells #[.slice A0_0 l0_0.length c0_0] 31 (0, 0)) (bg BK512.out) hg (Kd.R_ne HO_8.out BK512.out (by decide))); have n2_ := Aside0.mk (blk_grown (g := gb513) (o := .cells #[.slice A1_0 l1_0.length c1_0] 93 (0, 0)) (bg BK513.out) hg (Kd.R_ne HO_8.out BK513.out (by decide))); have n3_ := Aside0.mk (blk_grown (g := gb514) (o := .cells #[.int .i64 a2_0, .int .i64 a2_1, .int .i64 a2_2, .int .i64 a2_3, .int .i64 a2_4, .int .i64 a2_5, .int .i64 a2_6, .string a2_7, .int .i64 a2_8] 46 (0, 0)) (bg BK514.out) hg (Kd.R_ne HO_8.out BK514.out (by decide))); have n4_ := Aside0.mk (blk_grown (g := gb515) (o := .cells #[.slice none 0 0] 93 (0, 0)) (bg BK515.out) hg (Kd.R_ne HO_8.out BK515.out (by decide))); have n5_ := Aside0.mk ((by rw [hw]; exact below_set (HB.out) GB108.out : Below w.heap.size w w115)); clear HO_8; clear BK512; clear BK513; clear BK514; clear BK515; clear HB; have HO_8 := n0_; have BK512 := n1_; have BK513 := n2_; have BK514 := n3_; have BK515 := n4_; have HB := n5_; clear n0_ n1_ n2_ n3_ n4_ n5_; clear hg hw hp_))
                 go_roundg kj53
                 case measure => have := HJ7.out; have := HJ31.out; have := HK3.out; have := HJ53.out; omega
                 case rel => exact ⟨(y530), (true), (wrap64 (x40_3 + 1)), (by first | rfl | (simp; done) | (simp [*]; done)), (by first | rfl | (simp; done) | (simp [*]; done)), H', ⟨by have := HJ7.out; have := HJ31.out; have := HK3.out; have := HJ53.out; omega⟩, ⟨by (with_reducible repeat (first | apply Kd.R_alloc | apply Kd.R_drewN | apply Kd.R_drew)); exact HO_8.out⟩, ⟨bg BK512.out⟩, ⟨bg BK513.out⟩, ⟨bg BK514.out⟩, ⟨bg BK515.out⟩, ⟨bs HB.out⟩⟩
                ·
                 replace c109 := Bool.eq_false_iff.mpr c109
                 subst c109
                 have H1 : (online_Step.l0 kj53 y530 (x40_3 == 0) (l0_0.length : Int) (wrap64 (x40_3 + 1)) l0_0 a2_0 a2_1 a2_2 a2_3 a2_4 a2_5 a2_6 a2_7 a2_8) = some (r1, r2) := by rw [if_neg (show ¬ (false = true) by decide)] at H; exact H
                 clear H
                 have H := H1
                 clear H1
                 have H' := Aside0.mk H
                 clear H
                 have hnb116 := NB514_512.out
                 have hnc116 := NB512_514.out
                 have hnb117 := NB514_513.out
                 have hnc117 := NB513_514.out
                 have hnb118 := NB514_515.out
                 have hnc118 := NB515_514.out
                 obtain ⟨hcz119_0, hcz119_1, hcz119_2, hcz119_3, hcz119_4, hcz119_5, hcz119_6, hcz119_7, hcz119_8⟩ := bc9 BK514.out
                 obtain ⟨hfz119_0, hfz119_1, hfz119_2, hfz119_3, hfz119_4, hfz119_5, hfz119_6, hfz119_7, hfz119_8⟩ := bf9 BK514.out
                 have p108 : 0 ≤ ((ji105) : Int) := of_decide_eq_true (by first | (with_reducible assumption) | assumption)
                 have q108 : ((ji105) : Int) < ((x8_3.length : Int) : Int) := of_decide_eq_true (by first | (with_reducible assumption) | assumption)
                 obtain ⟨go108, co108, eo108, gb108, gl108, cl108, HG108⟩ := Kd.R_form HO_8.out (by omega)
                 (first | cases eo108 | (injection eo108 with ea_ en_ ec_; (first | subst ea_ | (injection ea_ with ea_; subst ea_)); subst ec_; clear en_))
                 have GB108 := Aside0.mk gb108
                 have GG108 := Aside0.mk HG108
                 clear gb108 gl108 HG108
                 obtain ⟨hx108_0, hf108_0⟩ := Kd.R_celln 0 HO_8.out ((ji105) : Int) p108 q108
                 replace p108 := eq_true p108
                 replace q108 := eq_true q108
                 have HP120 := Kd.R_putg HO_8.out ((ji105) : Int) a2_1
                 go_wp2_with (first | ((with_reducible refine gate_store (t := 3) (p := 83) rfl ?_); refine store_event (t := 3) (p := 83) (v := ?vo_w121) (w1 := (wc.setCell ⟨go108, ((ji105) : Int).toNat, none⟩ (.int .i64 a2_1))) ?hg ?ho ?hn ?hr ?_; (case ho => rfl); (case hg => rfl); (case hn => rfl); (case hr => first | (go_simp; done) | (go_simp; rfl)); intro w121 hw; have hg : wc.grownBy w121 (some go108) := (by rw [hw]; exact HP120.2); have hp_ : Kd.R (Kd.int .i64) 3 w121 w.heap.size (fun _ => True) (.slice (some ⟨go108, 0, none⟩) x8_3.length co62) y530 := (by rw [hw, Ny530.out]; exact HP120.1); clear HP120; have n0_ := Aside0.mk (hp_); have n1_ := Aside0.mk (blk_grown (g := gb512) (o := .cells #[.slice A0_0 l0_0.length c0_0] 31 (0, 0)) (bg BK512.out) hg (Kd.R_ne HO_8.out BK512.out (by decide))); have n2_ := Aside0.mk (blk_grown (g := gb513) (o := .cells #[.slice A1_0 l1_0.length c1_0] 93 (0, 0)) (bg BK513.out) hg (Kd.R_ne HO_8.out BK513.out (by decide))); have n3_ := Aside0.mk (blk_grown (g := gb514) (o := .cells #[.int .i64 a2_0, .int .i64 a2_1, .int .i64 a2_2, .int .i64 a2_3, .int .i64 a2_4, .int .i64 a2_5, .int .i64 a2_6, .string a2_7, .int .i64 a2_8] 46 (0, 0)) (bg BK514.out) hg (Kd.R_ne HO_8.out BK514.out (by decide))); have n4_ := Aside0.mk (blk_grown (g := gb515) (o := .cells #[.slice none 0 0] 93 (0, 0)) (bg BK515.out) hg (Kd.R_ne HO_8.out BK515.out (by decide))); have n5_ := Aside0.mk ((by rw [hw]; exact below_set (HB.out) GB108.out : Below w.heap.size w w121)); clear HO_8; clear BK512; clear BK513; clear BK514; clear BK515; clear HB; have HO_8 := n0_; have BK512 := n1_; have BK513 := n2_; have BK514 := n3_; have BK515 := n4_; have HB := n5_; clear n0_ n1_ n2_ n3_ n4_ n5_; clear hg hw hp_))
                 go_roundg kj53
                 case measure => have := HJ7.out; have := HJ31.out; have := HK3.out; have := HJ53.out; omega
                 case rel => exact ⟨(y530), ((x40_3 == 0)), (wrap64 (x40_3 + 1)), (by first | rfl | (simp; done) | (simp [*]; done)), (by first | rfl | (simp; done) | (simp [*]; done)), H', ⟨by have := HJ7.out; have := HJ31.out; have := HK3.out; have := HJ53.out; omega⟩, ⟨by (with_reducible repeat (first | apply Kd.R_alloc | apply Kd.R_drewN | apply Kd.R_drew)); exact HO_8.out⟩, ⟨bg BK512.out⟩, ⟨bg BK513.out⟩, ⟨bg BK514.out⟩, ⟨bg BK515.out⟩, ⟨bs HB.out⟩⟩
               ·
                rw [if_neg c107] at H
                exact absurd H (by simp)
              ·
               rw [if_neg c106] at H
               exact absurd H (by simp)
             ·
              replace c104 := Bool.eq_false_iff.mpr c104
              subst c104
              have H1 : (online_Step.l0 kj53 x8_3 x9_3 (l0_0.length : Int) (wrap64 (x40_3 + 1)) l0_0 a2_0 a2_1 a2_2 a2_3 a2_4 a2_5 a2_6 a2_7 a2_8) = some (r1, r2) := by rw [if_neg (show ¬ (false = true) by decide)] at H; exact H
              clear H
              have H := H1
              clear H1
              have H' := Aside0.mk H
              clear H
              go_wp2
              go_roundg kj53
              case measure => have := HJ7.out; have := HJ31.out; have := HK3.out; have := HJ53.out; omega
              case rel => exact ⟨(x8_3), (x9_3), (wrap64 (x40_3 + 1)), (by first | rfl | (simp; done) | (simp [*]; done)), (by first | rfl | (simp; done) | (simp [*]; done)), H', ⟨by have := HJ7.out; have := HJ31.out; have := HK3.out; have := HJ53.out; omega⟩, ⟨by (with_reducible repeat (first | apply Kd.R_alloc | apply Kd.R_drewN | apply Kd.R_drew)); exact HO_8.out⟩, ⟨bg BK512.out⟩, ⟨bg BK513.out⟩, ⟨bg BK514.out⟩, ⟨bg BK515.out⟩, ⟨bs HB.out⟩⟩
         ·
          rw [if_neg c52] at H
          have c52b0 : decide (x40_3 < (l0_0.length : Int)) = false := decide_eq_false c52
          clear c52
          simp only [Option.some.injEq, Prod.mk.injEq] at H
          obtain ⟨rfl, rfl⟩ := H
          obtain ⟨Ao122, co122, eo122⟩ := Kd.R_slice HO_8.out
          subst eo122
          have hnb123 := NB515_512.out
          have hnc123 := NB512_515.out
          have hnb124 := NB515_513.out
          have hnc124 := NB513_515.out
          have hnb125 := NB515_514.out
          have hnc125 := NB514_515.out
          have hcz126_0 : wr.cell? ⟨gb515, 0, none⟩ = some (.slice none 0 0) := (blk_cell BK515.out 0).trans rfl
          have hfz126_0 := blk_frozen BK515.out 0
          go_wp2
          refine bodyPost_ret (results_ct rfl _ _ gb515 93 #[.slice Ao122 x8_3.length co122] (0, 0) _ rfl (by (with_reducible repeat (first | refine blk_drewN ?_ _ | refine blk_drew ?_ | refine blk_alloc ?_ _)); refine blk_put (cs := #[.slice none 0 0]) ?_ 0 _ rfl; exact bg BK515.out) Try.underlying93 rfl (by kernel_rfl)) rfl ?_
          exact ⟨_, by first | rfl | (simp [errW_none, errW_some] <;> rfl) | (simp [*, errW_none, errW_some] <;> rfl), by (with_reducible repeat (first | apply Kd.R_alloc | apply Kd.R_drewN | apply Kd.R_drew)); exact Kd.R_mono (Kd.R_far (p := ⟨gb515, 0, none⟩) (Kd.R_types HO_8.out BK515.out (by decide)) (fun _ hk => hk.2) (.slice Ao122 x8_3.length co122)) (fun _ hk => trivial), bs HB.out⟩
 ·
  rw [if_neg c5] at H
  have c5b0 : (t516 == 0) = false := beq_eq_false_iff_ne.mpr c5
  have c5b1 : (t516 != 0) = true := bne_iff_ne.mpr c5
  simp only [Option.some.injEq, Prod.mk.injEq] at H
  obtain ⟨rfl, rfl⟩ := H
  go_enter Try.func69, Try.ntmps69
  go_wp2_with (first | ((with_reducible refine gate_dst (N := 3) rfl ?_); refine box_event ?hg (N := 3) ?hd (cs := #[.slice A0_0 l0_0.length c0_0]) (t := 31) ?hr ?_; (case hd => rfl); (case hg => rfl); (case hr => first | (go_simp; done) | (go_simp; rfl)); intro gb512 hg w127 hbox hb; have n0_ := Aside0.mk (below_step (bs HB.out) hb); have n1_ := Aside0.mk (hbox); have n2_ := Aside0.mk ((by rw [hg]; exact (below_size (bs HB.out)) : w.heap.size ≤ gb512)); have n3_ := n2_; clear HB; have HB := n0_; have BK512 := n1_; have GW512 := n2_; have GE512 := n3_; clear n0_ n1_ n2_ n3_; clear hb hbox hg) | ((with_reducible refine gate_dst (N := 4) rfl ?_); refine box_event ?hg (N := 4) ?hd (cs := #[.slice A1_0 l1_0.length c1_0]) (t := 93) ?hr ?_; (case hd => rfl); (case hg => rfl); (case hr => first | (go_simp; done) | (go_simp; rfl)); intro gb513 hg w128 hbox hb; have n0_ := Aside0.mk (blk_below (bg BK512.out) hb); have n1_ := Aside0.mk (below_step (bs HB.out) hb); have n2_ := Aside0.mk (hbox); have n3_ := Aside0.mk ((by rw [hg]; exact (below_size (bs HB.out)) : w.heap.size ≤ gb513)); have n4_ := n3_; have n5_ := Aside0.mk ((by rw [hg]; exact Nat.ne_of_lt (blk_lt (bg BK512.out)) : gb512 ≠ gb513)); have n6_ := Aside0.mk ((by rw [hg]; exact Nat.ne_of_gt (blk_lt (bg BK512.out)) : gb513 ≠ gb512)); clear BK512; clear HB; have BK512 := n0_; have HB := n1_; have BK513 := n2_; have GW513 := n3_; have GE513 := n4_; have NB512_513 := n5_; have NB513_512 := n6_; clear n0_ n1_ n2_ n3_ n4_ n5_ n6_; clear hb hbox hg) | ((with_reducible refine gate_dst (N := 5) rfl ?_); refine box_event ?hg (N := 5) ?hd (cs := #[.int .i64 a2_0, .int .i64 a2_1, .int .i64 a2_2, .int .i64 a2_3, .int .i64 a2_4, .int .i64 a2_5, .int .i64 a2_6, .string a2_7, .int .i64 a2_8]) (t := 46) ?hr ?_; (case hd => rfl); (case hg => rfl); (case hr => first | (go_simp; done) | (go_simp; rfl)); intro gb514 hg w129 hbox hb; have n0_ := Aside0.mk (blk_below (bg BK512.out) hb); have n1_ := Aside0.mk (blk_below (bg BK513.out) hb); have n2_ := Aside0.mk (below_step (bs HB.out) hb); have n3_ := Aside0.mk (hbox); have n4_ := Aside0.mk ((by rw [hg]; exact (below_size (bs HB.out)) : w.heap.size ≤ gb514)); have n5_ := n4_; have n6_ := Aside0.mk ((by rw [hg]; exact Nat.ne_of_lt (blk_lt (bg BK512.out)) : gb512 ≠ gb514)); have n7_ := Aside0.mk ((by rw [hg]; exact Nat.ne_of_gt (blk_lt (bg BK512.out)) : gb514 ≠ gb512)); have n8_ := Aside0.mk ((by rw [hg]; exact Nat.ne_of_lt (blk_lt (bg BK513.out)) : gb513 ≠ gb514)); have n9_ := Aside0.mk ((by rw [hg]; exact Nat.ne_of_gt (blk_lt (bg BK513.out)) : gb514 ≠ gb513)); clear BK512; clear BK513; clear HB; have BK512 := n0_; have BK513 := n1_; have HB := n2_; have BK514 := n3_; have GW514 := n4_; have GE514 := n5_; have NB512_514 := n6_; have NB514_512 := n7_; have NB513_514 := n8_; have NB514_513 := n9_; clear n0_ n1_ n2_ n3_ n4_ n5_ n6_ n7_ n8_ n9_; clear hb hbox hg) | ((with_reducible refine gate_dst (N := 6) rfl ?_); refine box_event ?hg (N := 6) ?hd (cs := #[.slice none 0 0]) (t := 93) ?hr ?_; (case hd => rfl); (case hg => rfl); (case hr => first | (go_simp; done) | (go_simp; rfl)); intro gb515 hg w130 hbox hb; have n0_ := Aside0.mk (blk_below (bg BK512.out) hb); have n1_ := Aside0.mk (blk_below (bg BK513.out) hb); have n2_ := Aside0.mk (blk_below (bg BK514.out) hb); have n3_ := Aside0.mk (below_step (bs HB.out) hb); have n4_ := Aside0.mk (hbox); have n5_ := Aside0.mk ((by rw [hg]; exact (below_size (bs HB.out)) : w.heap.size ≤ gb515)); have n6_ := n5_; have n7_ := Aside0.mk ((by rw [hg]; exact Nat.ne_of_lt (blk_lt (bg BK512.out)) : gb512 ≠ gb515)); have n8_ := Aside0.mk ((by rw [hg]; exact Nat.ne_of_gt (blk_lt (bg BK512.out)) : gb515 ≠ gb512)); have n9_ := Aside0.mk ((by rw [hg]; exact Nat.ne_of_lt (blk_lt (bg BK513.out)) : gb513 ≠ gb515)); have n10_ := Aside0.mk ((by rw [hg]; exact Nat.ne_of_gt (blk_lt (bg BK513.out)) : gb515 ≠ gb513)); have n11_ := Aside0.mk ((by rw [hg]; exact Nat.ne_of_lt (blk_lt (bg BK514.out)) : gb514 ≠ gb515)); have n12_ := Aside0.mk ((by rw [hg]; exact Nat.ne_of_gt (blk_lt (bg BK514.out)) : gb515 ≠ gb514)); clear BK512; clear BK513; clear BK514; clear HB; have BK512 := n0_; have BK513 := n1_; have BK514 := n2_; have HB := n3_; have BK515 := n4_; have GW515 := n5_; have GE515 := n6_; have NB512_515 := n7_; have NB515_512 := n8_; have NB513_515 := n9_; have NB515_513 := n10_; have NB514_515 := n11_; have NB515_514 := n12_; clear n0_ n1_ n2_ n3_ n4_ n5_ n6_ n7_ n8_ n9_ n10_ n11_ n12_; clear hb hbox hg; have hnb131 := NB512_513.out; have hnc131 := NB513_512.out; have hnb132 := NB512_514.out; have hnc132 := NB514_512.out; have hnb133 := NB512_515.out; have hnc133 := NB515_512.out; have hcz134_0 : w130.cell? ⟨gb512, 0, none⟩ = some (.slice A0_0 l0_0.length c0_0) := (blk_cell BK512.out 0).trans rfl; have hfz134_0 := blk_frozen BK512.out 0) | ((with_reducible refine gate_callee (f := 20) rfl ?_); refine goesL_ (some 14) rfl rfl Try.func20 (by kernel_rfl) rfl #[.agg #[.slice A0_0 l0_0.length c0_0]] rfl (by (try simp only [List.map_toArray, List.map_cons, List.map_nil]); first | done | rfl | (simp only [List.length_drop, List.length_take]; rfl)) ?_; (with_reducible refine (trigauto_Check.calls k _ _ l0_0 t516 _ ?side1 ?side2 A4.out).mono ?_); (case side1 => repeat (first | exact (Kd.C_below HR0_0.out HB.out) | (with_reducible refine Kd.C_alloc ?_ _) | (with_reducible refine Kd.C_drewN ?_ _) | (with_reducible refine Kd.C_drew ?_))); (case side2 => exact HC0_0.out); rintro e w135 ⟨rfl, hb⟩; refine ⟨_, rfl, ?_⟩; have n0_ := Aside0.mk (blk_below (bg BK512.out) hb); have n1_ := Aside0.mk (blk_below (bg BK513.out) hb); have n2_ := Aside0.mk (blk_below (bg BK514.out) hb); have n3_ := Aside0.mk (blk_below (bg BK515.out) hb); have n4_ := Aside0.mk (below_step (bs HB.out) hb); clear BK512; clear BK513; clear BK514; clear BK515; clear HB; have BK512 := n0_; have BK513 := n1_; have BK514 := n2_; have BK515 := n3_; have HB := n4_; clear n0_ n1_ n2_ n3_ n4_; (try clear hb); (try clear hb2); (try clear hk); (try clear hi); have hnb136 := NB515_513.out; have hnc136 := NB513_515.out; have hnb137 := NB515_514.out; have hnc137 := NB514_515.out; have hcz138_0 : w135.cell? ⟨gb515, 0, none⟩ = some (.slice none 0 0) := (blk_cell BK515.out 0).trans rfl; have hfz138_0 := blk_frozen BK515.out 0))
  refine bodyPost_ret (results_ct rfl _ _ gb515 93 #[.slice none 0 0] (0, 0) _ rfl (by (with_reducible repeat (first | refine blk_drewN ?_ _ | refine blk_drew ?_ | refine blk_alloc ?_ _)); refine blk_put (cs := #[.slice none 0 0]) ?_ 0 _ rfl; exact bg BK515.out) Try.underlying93 rfl (by kernel_rfl)) rfl ?_
  exact ⟨_, by first | rfl | (simp [errW_none, errW_some] <;> rfl) | (simp [*, errW_none, errW_some] <;> rfl), by first | exact Kd.R_nil _ _ _ _ _ | exact Kd.N_nil _ _ _ _ _ | exact Kd.V_nil _ _ _ _ _ | exact Kd.Q_nil _ _ _ _ _ | exact Kd.S_nil _ _ _ _ _, bs HB.out⟩

end Go.Proofs.Ytgdjiphljadlcaa.K
