-- Printed by wip/hprint.py (this project's own driver of the kit's print) out of the translation; Lean checks it.
import Derived.Test.YtgdjiphljadlcaaH0
import Derived.Test.YtgdjiphljadlcaaH6
import Derived.Test.YtgdjiphljadlcaaH26
import Derived.Test.YtgdjiphljadlcaaH41
import Derived.Test.YtgdjiphljadlcaaHFind
namespace Go.Proofs.Ytgdjiphljadlcaa.H
open Go.RowKit Go.Proofs.YtgdjiphljadlcaaW.PrintWords Go.Proofs.YtgdjiphljadlcaaW.PrintLast Go.Proofs.YtgdjiphljadlcaaW.PrintMore
attribute [local go_sem] max2_int min2_int max_two min_two max_three min_three max_four min_four   -- for this text's walks alone
set_option linter.unusedVariables false
set_option linter.unusedSimpArgs false

/-! ### trig_Holds: function 37 -/
mutual
def trig_Holds.j0 : Nat → Bool → ByteArray → Int → Int → Int → Int → List (S139) → List (S100) → Int → Int → Int → Int → Int → Int → Int → ByteArray → Int → Option (Bool)
 | 0, _, _, _, _, _, _, _, _, _, _, _, _, _, _, _, _, _ => none
 | k + 1, x17, x343000, x343001, x343002, x343003, x343004, x344000, x344001, x345000, x345001, x345002, x345003, x345004, x345005, x345006, x345007, x345008 => if x17 = true then (some false) else ((stackdef_Find.f x344000 x344001 x343000).bind fun t347 => (if t347 < 0 then (trig_Holds.j1 k true x343000 x343001 x343002 x343003 x343004 x345000 x345001 x345002 x345003 x345004 x345005 x345006 x345007 x345008) else (if t347 = x345000 then (if x343001 = 0 then (trig_Holds.j1 k false x343000 x343001 x343002 x343003 x343004 x345000 x345001 x345002 x345003 x345004 x345005 x345006 x345007 x345008) else (trig_Holds.j1 k (x343001 != x345002) x343000 x343001 x343002 x343003 x343004 x345000 x345001 x345002 x345003 x345004 x345005 x345006 x345007 x345008)) else (trig_Holds.j1 k true x343000 x343001 x343002 x343003 x343004 x345000 x345001 x345002 x345003 x345004 x345005 x345006 x345007 x345008))))
def trig_Holds.j1 : Nat → Bool → ByteArray → Int → Int → Int → Int → Int → Int → Int → Int → Int → Int → Int → ByteArray → Int → Option (Bool)
 | 0, _, _, _, _, _, _, _, _, _, _, _, _, _, _, _ => none
 | k + 1, x42, x343000, x343001, x343002, x343003, x343004, x345000, x345001, x345002, x345003, x345004, x345005, x345006, x345007, x345008 => if x42 = true then (some false) else ((trig_field.f x345002 x345003 x345004 x345005 x345006 x345007 x345008 x343002).bind fun t348 => (if x343003 = 1 then (some (t348 == x343004)) else (if x343003 = 2 then (some (t348 != x343004)) else (if x343003 = 3 then (some (decide (t348 < x343004))) else (if x343003 = 4 then (some (decide (t348 > x343004))) else (if x343003 = 5 then (some ((Go.bits .and .i64 t348 x343004) == x343004)) else (some true)))))))
end
def trig_Holds.f (k : Nat) (a0_0 : ByteArray) (a0_1 : Int) (a0_2 : Int) (a0_3 : Int) (a0_4 : Int) (l1_0 : List (S139)) (l1_1 : List (S100)) (a2_0 : Int) (a2_1 : Int) (a2_2 : Int) (a2_3 : Int) (a2_4 : Int) (a2_5 : Int) (a2_6 : Int) (a2_7 : ByteArray) (a2_8 : Int) : Option (Bool) := (trig_wrongCond.f k a0_0 a0_1 a0_2 a0_3 a0_4).bind fun t345 => (if t345 = 0 then ((event_Valid.f k a2_2 a2_3 a2_4 a2_5 a2_6 a2_7 a2_8).bind fun t346 => (trig_Holds.j0 k (!t346) a0_0 a0_1 a0_2 a0_3 a0_4 l1_0 l1_1 a2_0 a2_1 a2_2 a2_3 a2_4 a2_5 a2_6 a2_7 a2_8)) else (trig_Holds.j0 k true a0_0 a0_1 a0_2 a0_3 a0_4 l1_0 l1_1 a2_0 a2_1 a2_2 a2_3 a2_4 a2_5 a2_6 a2_7 a2_8))
set_option maxHeartbeats 8000000 in
set_option maxRecDepth 100000 in
theorem trig_Holds.calls (k : Nat) (a0_0 : ByteArray) (a0_1 : Int) (a0_2 : Int) (a0_3 : Int) (a0_4 : Int) (A1_0 : Option Addr) (c1_0 : Nat) (l1_0 : List (S139)) (A1_1 : Option Addr) (c1_1 : Nat) (l1_1 : List (S100)) (a2_0 : Int) (a2_1 : Int) (a2_2 : Int) (a2_3 : Int) (a2_4 : Int) (a2_5 : Int) (a2_6 : Int) (a2_7 : ByteArray) (a2_8 : Int) (r : Bool) (w : World) (hr1_0 : Kd.C k139 w A1_0 l1_0.length l1_0) (hc1_0 : l1_0.length ≤ c1_0) (hr1_1 : Kd.C k100 w A1_1 l1_1.length l1_1) (hc1_1 : l1_1.length ≤ c1_1) (h : trig_Holds.f k a0_0 a0_1 a0_2 a0_3 a0_4 l1_0 l1_1 a2_0 a2_1 a2_2 a2_3 a2_4 a2_5 a2_6 a2_7 a2_8 = some r) :
  Calls Try.prog 37 #[.agg #[.string a0_0, .int .i64 a0_1, .int .i64 a0_2, .int .i64 a0_3, .int .i64 a0_4], .agg #[.slice A1_0 l1_0.length c1_0, .slice A1_1 l1_1.length c1_1], .agg #[.int .i64 a2_0, .int .i64 a2_1, .int .i64 a2_2, .int .i64 a2_3, .int .i64 a2_4, .int .i64 a2_5, .int .i64 a2_6, .string a2_7, .int .i64 a2_8]] w fun e w' => e = .returned (.bool r) ∧ Below w.heap.size w w' := by
 have hu62 := Try.underlying62
 have hu28 := Try.underlying28
 have hu46 := Try.underlying46
 have hu44 := Try.underlying44
 have HR1_0 := Aside0.mk hr1_0
 have HC1_0 := Aside0.mk hc1_0
 clear hr1_0 hc1_0
 have HR1_1 := Aside0.mk hr1_1
 have HC1_1 := Aside0.mk hc1_1
 clear hr1_1 hc1_1
 have HB := Aside0.mk (Below.refl w.heap.size w)
 have H : ((trig_wrongCond.f k a0_0 a0_1 a0_2 a0_3 a0_4).bind fun t345 => (if t345 = 0 then ((event_Valid.f k a2_2 a2_3 a2_4 a2_5 a2_6 a2_7 a2_8).bind fun t346 => (trig_Holds.j0 k (!t346) a0_0 a0_1 a0_2 a0_3 a0_4 l1_0 l1_1 a2_0 a2_1 a2_2 a2_3 a2_4 a2_5 a2_6 a2_7 a2_8)) else (trig_Holds.j0 k true a0_0 a0_1 a0_2 a0_3 a0_4 l1_0 l1_1 a2_0 a2_1 a2_2 a2_3 a2_4 a2_5 a2_6 a2_7 a2_8))) = some r := h
 clear h
 have HC4 := Aside0.mk H
 clear H
 go_enter Try.func37, Try.ntmps37
 go_upto_region 1 with (first | ((with_reducible refine gate_dst (N := 3) rfl ?_); refine box_event ?hg (N := 3) ?hd (cs := #[.string a0_0, .int .i64 a0_1, .int .i64 a0_2, .int .i64 a0_3, .int .i64 a0_4]) (t := 62) ?hr ?_; (case hd => rfl); (case hg => rfl); (case hr => first | (go_simp; done) | (go_simp; rfl)); intro gb342 hg w5 hbox hb; have n0_ := Aside0.mk (below_step (bs HB.out) hb); have n1_ := Aside0.mk (hbox); have n2_ := Aside0.mk ((by rw [hg]; exact (below_size (bs HB.out)) : w.heap.size ≤ gb342)); have n3_ := n2_; clear HB; have HB := n0_; have BK342 := n1_; have GW342 := n2_; have GE342 := n3_; clear n0_ n1_ n2_ n3_; clear hb hbox hg) | ((with_reducible refine gate_dst (N := 4) rfl ?_); refine box_event ?hg (N := 4) ?hd (cs := #[.slice A1_0 l1_0.length c1_0, .slice A1_1 l1_1.length c1_1]) (t := 28) ?hr ?_; (case hd => rfl); (case hg => rfl); (case hr => first | (go_simp; done) | (go_simp; rfl)); intro gb343 hg w6 hbox hb; have n0_ := Aside0.mk (blk_below (bg BK342.out) hb); have n1_ := Aside0.mk (below_step (bs HB.out) hb); have n2_ := Aside0.mk (hbox); have n3_ := Aside0.mk ((by rw [hg]; exact (below_size (bs HB.out)) : w.heap.size ≤ gb343)); have n4_ := n3_; have n5_ := Aside0.mk ((by rw [hg]; exact Nat.ne_of_lt (blk_lt (bg BK342.out)) : gb342 ≠ gb343)); have n6_ := Aside0.mk ((by rw [hg]; exact Nat.ne_of_gt (blk_lt (bg BK342.out)) : gb343 ≠ gb342)); clear BK342; clear HB; have BK342 := n0_; have HB := n1_; have BK343 := n2_; have GW343 := n3_; have GE343 := n4_; have NB342_343 := n5_; have NB343_342 := n6_; clear n0_ n1_ n2_ n3_ n4_ n5_ n6_; clear hb hbox hg) | ((with_reducible refine gate_dst (N := 5) rfl ?_); refine box_event ?hg (N := 5) ?hd (cs := #[.int .i64 a2_0, .int .i64 a2_1, .int .i64 a2_2, .int .i64 a2_3, .int .i64 a2_4, .int .i64 a2_5, .int .i64 a2_6, .string a2_7, .int .i64 a2_8]) (t := 46) ?hr ?_; (case hd => rfl); (case hg => rfl); (case hr => first | (go_simp; done) | (go_simp; rfl)); intro gb344 hg w7 hbox hb; have n0_ := Aside0.mk (blk_below (bg BK342.out) hb); have n1_ := Aside0.mk (blk_below (bg BK343.out) hb); have n2_ := Aside0.mk (below_step (bs HB.out) hb); have n3_ := Aside0.mk (hbox); have n4_ := Aside0.mk ((by rw [hg]; exact (below_size (bs HB.out)) : w.heap.size ≤ gb344)); have n5_ := n4_; have n6_ := Aside0.mk ((by rw [hg]; exact Nat.ne_of_lt (blk_lt (bg BK342.out)) : gb342 ≠ gb344)); have n7_ := Aside0.mk ((by rw [hg]; exact Nat.ne_of_gt (blk_lt (bg BK342.out)) : gb344 ≠ gb342)); have n8_ := Aside0.mk ((by rw [hg]; exact Nat.ne_of_lt (blk_lt (bg BK343.out)) : gb343 ≠ gb344)); have n9_ := Aside0.mk ((by rw [hg]; exact Nat.ne_of_gt (blk_lt (bg BK343.out)) : gb344 ≠ gb343)); clear BK342; clear BK343; clear HB; have BK342 := n0_; have BK343 := n1_; have HB := n2_; have BK344 := n3_; have GW344 := n4_; have GE344 := n5_; have NB342_344 := n6_; have NB344_342 := n7_; have NB343_344 := n8_; have NB344_343 := n9_; clear n0_ n1_ n2_ n3_ n4_ n5_ n6_ n7_ n8_ n9_; clear hb hbox hg))
 (try simp only [Act.put, List.setIfInBounds_toArray, List.set_cons_zero, List.set_cons_succ])
 go_cut [17] (fun v17 wc => ∃ (kq : Nat) (x17_3 : Bool), v17 = .bool x17_3 ∧ Aside0 (trig_Holds.j0 kq x17_3 a0_0 a0_1 a0_2 a0_3 a0_4 l1_0 l1_1 a2_0 a2_1 a2_2 a2_3 a2_4 a2_5 a2_6 a2_7 a2_8 = some r) ∧ Aside0 (kq ≤ k) ∧ Aside0 (wc.heap[gb342]? = some (.cells #[.string a0_0, .int .i64 a0_1, .int .i64 a0_2, .int .i64 a0_3, .int .i64 a0_4] 62 (0, 0))) ∧ Aside0 (wc.heap[gb343]? = some (.cells #[(.slice A1_0 l1_0.length c1_0), (.slice A1_1 l1_1.length c1_1)] 28 (0, 0))) ∧ Aside0 (wc.heap[gb344]? = some (.cells #[.int .i64 a2_0, .int .i64 a2_1, .int .i64 a2_2, .int .i64 a2_3, .int .i64 a2_4, .int .i64 a2_5, .int .i64 a2_6, .string a2_7, .int .i64 a2_8] 46 (0, 0))) ∧ Aside0 (Below w.heap.size w wc))
 case first =>
  have H := HC4.out
  clear HC4
  replace H := Option.bind_eq_some_iff.mp H
  obtain ⟨t345, A80, H⟩ := H
  replace H : (if t345 = 0 then ((event_Valid.f k a2_2 a2_3 a2_4 a2_5 a2_6 a2_7 a2_8).bind fun t346 => (trig_Holds.j0 k (!t346) a0_0 a0_1 a0_2 a0_3 a0_4 l1_0 l1_1 a2_0 a2_1 a2_2 a2_3 a2_4 a2_5 a2_6 a2_7 a2_8)) else (trig_Holds.j0 k true a0_0 a0_1 a0_2 a0_3 a0_4 l1_0 l1_1 a2_0 a2_1 a2_2 a2_3 a2_4 a2_5 a2_6 a2_7 a2_8)) = some r := H
  have A8 := Aside0.mk A80
  clear A80
  by_cases c9 : t345 = 0
  ·
   rw [if_pos c9] at H
   have c9b0 : (t345 == 0) = true := beq_iff_eq.mpr c9
   have c9b1 : (t345 != 0) = false := bne_eq_false_iff_eq.mpr c9
   clear c9
   (first | rw [c9b0] | (simp only [i64_w, i32_w]; rw [c9b0]) | skip)
   replace H := Option.bind_eq_some_iff.mp H
   obtain ⟨t346, A100, H⟩ := H
   replace H : (trig_Holds.j0 k (!t346) a0_0 a0_1 a0_2 a0_3 a0_4 l1_0 l1_1 a2_0 a2_1 a2_2 a2_3 a2_4 a2_5 a2_6 a2_7 a2_8) = some r := H
   have A10 := Aside0.mk A100
   clear A100
   have H' := Aside0.mk H
   clear H
   have hnb11 := NB342_343.out
   have hnc11 := NB343_342.out
   have hnb12 := NB342_344.out
   have hnc12 := NB344_342.out
   obtain ⟨hcz13_0, hcz13_1, hcz13_2, hcz13_3, hcz13_4⟩ := bc5 BK342.out
   obtain ⟨hfz13_0, hfz13_1, hfz13_2, hfz13_3, hfz13_4⟩ := bf5 BK342.out
   go_wp2_with (first | ((with_reducible refine gate_callee (f := 66) rfl ?_); refine goesL_ (some 10) rfl rfl Try.func66 (by kernel_rfl) rfl #[.agg #[.string a0_0, .int .i64 a0_1, .int .i64 a0_2, .int .i64 a0_3, .int .i64 a0_4]] rfl (by (try simp only [List.map_toArray, List.map_cons, List.map_nil]); first | done | rfl | (simp only [List.length_drop, List.length_take]; rfl)) ?_; (with_reducible refine (trig_wrongCond.calls k a0_0 a0_1 a0_2 a0_3 a0_4 t345 _ A8.out).mono ?_); rintro e w14 ⟨rfl, hb⟩; refine ⟨_, rfl, ?_⟩; have n0_ := Aside0.mk (blk_below (bg BK342.out) hb); have n1_ := Aside0.mk (blk_below (bg BK343.out) hb); have n2_ := Aside0.mk (blk_below (bg BK344.out) hb); have n3_ := Aside0.mk (below_step (bs HB.out) hb); clear BK342; clear BK343; clear BK344; clear HB; have BK342 := n0_; have BK343 := n1_; have BK344 := n2_; have HB := n3_; clear n0_ n1_ n2_ n3_; (try clear hb); (try clear hb2); (try clear hk); (try clear hi); have hnb15 := NB344_343.out; have hnc15 := NB343_344.out; obtain ⟨hcz16_0, hcz16_1, hcz16_2, hcz16_3, hcz16_4, hcz16_5, hcz16_6, hcz16_7, hcz16_8⟩ := bc9 BK344.out; obtain ⟨hfz16_0, hfz16_1, hfz16_2, hfz16_3, hfz16_4, hfz16_5, hfz16_6, hfz16_7, hfz16_8⟩ := bf9 BK344.out) | (go_at_call 47; (with_reducible refine (event_Valid.calls k a2_2 a2_3 a2_4 a2_5 a2_6 a2_7 a2_8 t346 _ A10.out).mono ?_); rintro e w17 ⟨rfl, hb⟩; have n0_ := Aside0.mk (blk_below (bg BK342.out) hb); have n1_ := Aside0.mk (blk_below (bg BK343.out) hb); have n2_ := Aside0.mk (blk_below (bg BK344.out) hb); have n3_ := Aside0.mk (below_step (bs HB.out) hb); clear BK342; clear BK343; clear BK344; clear HB; have BK342 := n0_; have BK343 := n1_; have BK344 := n2_; have HB := n3_; clear n0_ n1_ n2_ n3_; (try clear hb); (try clear hb2); (try clear hk); (try clear hi)))
   go_meet
   case rel => exact ⟨_, (!t346), (by first | rfl | (simp; done) | (simp [*]; done)), H', ⟨by first | omega | exact Nat.le_refl _⟩, ⟨bg BK342.out⟩, ⟨bg BK343.out⟩, ⟨bg BK344.out⟩, ⟨bs HB.out⟩⟩
  ·
   rw [if_neg c9] at H
   have c9b0 : (t345 == 0) = false := beq_eq_false_iff_ne.mpr c9
   have c9b1 : (t345 != 0) = true := bne_iff_ne.mpr c9
   (first | rw [c9b0] | (simp only [i64_w, i32_w]; rw [c9b0]) | skip)
   have H' := Aside0.mk H
   clear H
   have hnb18 := NB342_343.out
   have hnc18 := NB343_342.out
   have hnb19 := NB342_344.out
   have hnc19 := NB344_342.out
   obtain ⟨hcz20_0, hcz20_1, hcz20_2, hcz20_3, hcz20_4⟩ := bc5 BK342.out
   obtain ⟨hfz20_0, hfz20_1, hfz20_2, hfz20_3, hfz20_4⟩ := bf5 BK342.out
   go_wp2_with (first | ((with_reducible refine gate_callee (f := 66) rfl ?_); refine goesL_ (some 10) rfl rfl Try.func66 (by kernel_rfl) rfl #[.agg #[.string a0_0, .int .i64 a0_1, .int .i64 a0_2, .int .i64 a0_3, .int .i64 a0_4]] rfl (by (try simp only [List.map_toArray, List.map_cons, List.map_nil]); first | done | rfl | (simp only [List.length_drop, List.length_take]; rfl)) ?_; (with_reducible refine (trig_wrongCond.calls k a0_0 a0_1 a0_2 a0_3 a0_4 t345 _ A8.out).mono ?_); rintro e w21 ⟨rfl, hb⟩; refine ⟨_, rfl, ?_⟩; have n0_ := Aside0.mk (blk_below (bg BK342.out) hb); have n1_ := Aside0.mk (blk_below (bg BK343.out) hb); have n2_ := Aside0.mk (blk_below (bg BK344.out) hb); have n3_ := Aside0.mk (below_step (bs HB.out) hb); clear BK342; clear BK343; clear BK344; clear HB; have BK342 := n0_; have BK343 := n1_; have BK344 := n2_; have HB := n3_; clear n0_ n1_ n2_ n3_; (try clear hb); (try clear hb2); (try clear hk); (try clear hi)))
   go_meet
   case rel => exact ⟨_, (true), (by first | rfl | (simp; done) | (simp [*]; done)), H', ⟨by first | omega | exact Nat.le_refl _⟩, ⟨bg BK342.out⟩, ⟨bg BK343.out⟩, ⟨bg BK344.out⟩, ⟨bs HB.out⟩⟩
 case rest =>
  clear HC4
  try clear c1
  try clear p2
  try clear c3
  try clear c6
  try clear c9
  try clear c9b0
  try clear c9b1
  try clear c11
  try clear c12
  try clear c15
  try clear c18
  try clear c19
  try clear hcz13_0 hcz13_1 hcz13_2 hcz13_3 hcz13_4
  try clear hcz16_0 hcz16_1 hcz16_2 hcz16_3 hcz16_4 hcz16_5 hcz16_6 hcz16_7 hcz16_8
  try clear hcz20_0 hcz20_1 hcz20_2 hcz20_3 hcz20_4
  try clear hfz13_0 hfz13_1 hfz13_2 hfz13_3 hfz13_4
  try clear hfz16_0 hfz16_1 hfz16_2 hfz16_3 hfz16_4 hfz16_5 hfz16_6 hfz16_7 hfz16_8
  try clear hfz20_0 hfz20_1 hfz20_2 hfz20_3 hfz20_4
  obtain ⟨kq, x17_3, rfl, HA, HJ3, BK342, BK343, BK344, HB⟩ := hcut
  cases kq with
  | zero => exact absurd HA.out (by simp [trig_Holds.j0])
  | succ kj3 =>
   have H := HA.out
   clear HA
   simp only [trig_Holds.j0] at H
   by_cases c22 : x17_3 = true
   ·
    subst c22
    have H1 : (some false) = some r := by rw [if_pos rfl] at H; exact H
    clear H
    have H := H1
    clear H1
    obtain rfl := Option.some.inj H
    go_wp2
    go_ret
    exact ⟨by first | rfl | (simp [errW_none, errW_some] <;> rfl) | (simp [*, errW_none, errW_some] <;> rfl), bs HB.out⟩
   ·
    replace c22 := Bool.eq_false_iff.mpr c22
    subst c22
    have H1 : ((stackdef_Find.f l1_0 l1_1 a0_0).bind fun t347 => (if t347 < 0 then (trig_Holds.j1 kj3 true a0_0 a0_1 a0_2 a0_3 a0_4 a2_0 a2_1 a2_2 a2_3 a2_4 a2_5 a2_6 a2_7 a2_8) else (if t347 = a2_0 then (if a0_1 = 0 then (trig_Holds.j1 kj3 false a0_0 a0_1 a0_2 a0_3 a0_4 a2_0 a2_1 a2_2 a2_3 a2_4 a2_5 a2_6 a2_7 a2_8) else (trig_Holds.j1 kj3 (a0_1 != a2_2) a0_0 a0_1 a0_2 a0_3 a0_4 a2_0 a2_1 a2_2 a2_3 a2_4 a2_5 a2_6 a2_7 a2_8)) else (trig_Holds.j1 kj3 true a0_0 a0_1 a0_2 a0_3 a0_4 a2_0 a2_1 a2_2 a2_3 a2_4 a2_5 a2_6 a2_7 a2_8)))) = some r := by rw [if_neg (show ¬ (false = true) by decide)] at H; exact H
    clear H
    have H := H1
    clear H1
    replace H := Option.bind_eq_some_iff.mp H
    obtain ⟨t347, A230, H⟩ := H
    replace H : (if t347 < 0 then (trig_Holds.j1 kj3 true a0_0 a0_1 a0_2 a0_3 a0_4 a2_0 a2_1 a2_2 a2_3 a2_4 a2_5 a2_6 a2_7 a2_8) else (if t347 = a2_0 then (if a0_1 = 0 then (trig_Holds.j1 kj3 false a0_0 a0_1 a0_2 a0_3 a0_4 a2_0 a2_1 a2_2 a2_3 a2_4 a2_5 a2_6 a2_7 a2_8) else (trig_Holds.j1 kj3 (a0_1 != a2_2) a0_0 a0_1 a0_2 a0_3 a0_4 a2_0 a2_1 a2_2 a2_3 a2_4 a2_5 a2_6 a2_7 a2_8)) else (trig_Holds.j1 kj3 true a0_0 a0_1 a0_2 a0_3 a0_4 a2_0 a2_1 a2_2 a2_3 a2_4 a2_5 a2_6 a2_7 a2_8))) = some r := H
    have A23 := Aside0.mk A230
    clear A230
    have HC24 := Aside0.mk H
    clear H
    have hnb25 := NB343_342.out
    have hnc25 := NB342_343.out
    have hnb26 := NB343_344.out
    have hnc26 := NB344_343.out
    obtain ⟨hcz27_0, hcz27_1⟩ := bc2 BK343.out
    obtain ⟨hfz27_0, hfz27_1⟩ := bf2 BK343.out
    have hnb28 := NB342_344.out
    have hnc28 := NB344_342.out
    obtain ⟨hcz29_0, hcz29_1, hcz29_2, hcz29_3, hcz29_4⟩ := bc5 BK342.out
    obtain ⟨hfz29_0, hfz29_1, hfz29_2, hfz29_3, hfz29_4⟩ := bf5 BK342.out
    go_upto_region 4 with (first | ((with_reducible refine gate_callee (f := 54) rfl ?_); refine goesL_ (some 21) rfl rfl Try.func54 (by kernel_rfl) rfl #[.agg #[.slice A1_0 l1_0.length c1_0, .slice A1_1 l1_1.length c1_1], .string a0_0] rfl (by (try simp only [List.map_toArray, List.map_cons, List.map_nil]); first | done | rfl | (simp only [List.length_drop, List.length_take]; rfl)) ?_; (with_reducible refine (stackdef_Find.calls _ _ l1_0 _ _ l1_1 a0_0 t347 _ ?side1 ?side2 ?side3 ?side4 A23.out).mono ?_); (case side1 => repeat (first | exact (Kd.C_below HR1_0.out HB.out) | (with_reducible refine Kd.C_alloc ?_ _) | (with_reducible refine Kd.C_drewN ?_ _) | (with_reducible refine Kd.C_drew ?_))); (case side2 => exact HC1_0.out); (case side3 => repeat (first | exact (Kd.C_below HR1_1.out HB.out) | (with_reducible refine Kd.C_alloc ?_ _) | (with_reducible refine Kd.C_drewN ?_ _) | (with_reducible refine Kd.C_drew ?_))); (case side4 => exact HC1_1.out); rintro e w30 ⟨rfl, hb⟩; refine ⟨_, rfl, ?_⟩; have n0_ := Aside0.mk (blk_below (bg BK342.out) hb); have n1_ := Aside0.mk (blk_below (bg BK343.out) hb); have n2_ := Aside0.mk (blk_below (bg BK344.out) hb); have n3_ := Aside0.mk (below_step (bs HB.out) hb); clear BK342; clear BK343; clear BK344; clear HB; have BK342 := n0_; have BK343 := n1_; have BK344 := n2_; have HB := n3_; clear n0_ n1_ n2_ n3_; (try clear hb); (try clear hb2); (try clear hk); (try clear hi)))
    (try simp only [Act.put, List.setIfInBounds_toArray, List.set_cons_zero, List.set_cons_succ])
    go_cut [42] (fun v42 wc => ∃ (kq : Nat) (x42_23 : Bool), v42 = .bool x42_23 ∧ Aside0 (trig_Holds.j1 kq x42_23 a0_0 a0_1 a0_2 a0_3 a0_4 a2_0 a2_1 a2_2 a2_3 a2_4 a2_5 a2_6 a2_7 a2_8 = some r) ∧ Aside0 (kq ≤ kj3) ∧ Aside0 (wc.heap[gb342]? = some (.cells #[.string a0_0, .int .i64 a0_1, .int .i64 a0_2, .int .i64 a0_3, .int .i64 a0_4] 62 (0, 0))) ∧ Aside0 (wc.heap[gb343]? = some (.cells #[(.slice A1_0 l1_0.length c1_0), (.slice A1_1 l1_1.length c1_1)] 28 (0, 0))) ∧ Aside0 (wc.heap[gb344]? = some (.cells #[.int .i64 a2_0, .int .i64 a2_1, .int .i64 a2_2, .int .i64 a2_3, .int .i64 a2_4, .int .i64 a2_5, .int .i64 a2_6, .string a2_7, .int .i64 a2_8] 46 (0, 0))) ∧ Aside0 (Below w.heap.size w wc))
    case first =>
     have H := HC24.out
     clear HC24
     by_cases c31 : t347 < 0
     ·
      rw [if_pos c31] at H
      have c31b0 : decide (t347 < 0) = true := decide_eq_true c31
      clear c31
      (first | rw [c31b0] | (simp only [i64_w, i32_w]; rw [c31b0]) | skip)
      have H' := Aside0.mk H
      clear H
      go_wp2
      go_meet
      case rel => exact ⟨_, (true), (by first | rfl | (simp; done) | (simp [*]; done)), H', ⟨by have := HJ3.out; first | omega | exact Nat.le_refl _⟩, ⟨bg BK342.out⟩, ⟨bg BK343.out⟩, ⟨bg BK344.out⟩, ⟨bs HB.out⟩⟩
     ·
      rw [if_neg c31] at H
      have c31b0 : decide (t347 < 0) = false := decide_eq_false c31
      clear c31
      (first | rw [c31b0] | (simp only [i64_w, i32_w]; rw [c31b0]) | skip)
      by_cases c32 : t347 = a2_0
      ·
       rw [if_pos c32] at H
       have c32b0 : (t347 == a2_0) = true := beq_iff_eq.mpr c32
       have c32b1 : (t347 != a2_0) = false := bne_eq_false_iff_eq.mpr c32
       clear c32
       by_cases c33 : a0_1 = 0
       ·
        rw [if_pos c33] at H
        have c33b0 : (a0_1 == 0) = true := beq_iff_eq.mpr c33
        have c33b1 : (a0_1 != 0) = false := bne_eq_false_iff_eq.mpr c33
        clear c33
        have H' := Aside0.mk H
        clear H
        have hnb34 := NB344_342.out
        have hnc34 := NB342_344.out
        have hnb35 := NB344_343.out
        have hnc35 := NB343_344.out
        obtain ⟨hcz36_0, hcz36_1, hcz36_2, hcz36_3, hcz36_4, hcz36_5, hcz36_6, hcz36_7, hcz36_8⟩ := bc9 BK344.out
        obtain ⟨hfz36_0, hfz36_1, hfz36_2, hfz36_3, hfz36_4, hfz36_5, hfz36_6, hfz36_7, hfz36_8⟩ := bf9 BK344.out
        have hnb37 := NB342_343.out
        have hnc37 := NB343_342.out
        obtain ⟨hcz38_0, hcz38_1, hcz38_2, hcz38_3, hcz38_4⟩ := bc5 BK342.out
        obtain ⟨hfz38_0, hfz38_1, hfz38_2, hfz38_3, hfz38_4⟩ := bf5 BK342.out
        go_wp2
        go_meet
        case rel => exact ⟨_, (false), (by first | rfl | (simp; done) | (simp [*]; done)), H', ⟨by have := HJ3.out; first | omega | exact Nat.le_refl _⟩, ⟨bg BK342.out⟩, ⟨bg BK343.out⟩, ⟨bg BK344.out⟩, ⟨bs HB.out⟩⟩
       ·
        rw [if_neg c33] at H
        have c33b0 : (a0_1 == 0) = false := beq_eq_false_iff_ne.mpr c33
        have c33b1 : (a0_1 != 0) = true := bne_iff_ne.mpr c33
        have H' := Aside0.mk H
        clear H
        have hnb39 := NB344_342.out
        have hnc39 := NB342_344.out
        have hnb40 := NB344_343.out
        have hnc40 := NB343_344.out
        obtain ⟨hcz41_0, hcz41_1, hcz41_2, hcz41_3, hcz41_4, hcz41_5, hcz41_6, hcz41_7, hcz41_8⟩ := bc9 BK344.out
        obtain ⟨hfz41_0, hfz41_1, hfz41_2, hfz41_3, hfz41_4, hfz41_5, hfz41_6, hfz41_7, hfz41_8⟩ := bf9 BK344.out
        have hnb42 := NB342_343.out
        have hnc42 := NB343_342.out
        obtain ⟨hcz43_0, hcz43_1, hcz43_2, hcz43_3, hcz43_4⟩ := bc5 BK342.out
        obtain ⟨hfz43_0, hfz43_1, hfz43_2, hfz43_3, hfz43_4⟩ := bf5 BK342.out
        go_wp2
        go_meet
        case rel => exact ⟨_, ((a0_1 != a2_2)), (by first | rfl | (simp; done) | (simp [*]; done)), H', ⟨by have := HJ3.out; first | omega | exact Nat.le_refl _⟩, ⟨bg BK342.out⟩, ⟨bg BK343.out⟩, ⟨bg BK344.out⟩, ⟨bs HB.out⟩⟩
      ·
       rw [if_neg c32] at H
       have c32b0 : (t347 == a2_0) = false := beq_eq_false_iff_ne.mpr c32
       have c32b1 : (t347 != a2_0) = true := bne_iff_ne.mpr c32
       have H' := Aside0.mk H
       clear H
       have hnb44 := NB344_342.out
       have hnc44 := NB342_344.out
       have hnb45 := NB344_343.out
       have hnc45 := NB343_344.out
       obtain ⟨hcz46_0, hcz46_1, hcz46_2, hcz46_3, hcz46_4, hcz46_5, hcz46_6, hcz46_7, hcz46_8⟩ := bc9 BK344.out
       obtain ⟨hfz46_0, hfz46_1, hfz46_2, hfz46_3, hfz46_4, hfz46_5, hfz46_6, hfz46_7, hfz46_8⟩ := bf9 BK344.out
       go_wp2
       go_meet
       case rel => exact ⟨_, (true), (by first | rfl | (simp; done) | (simp [*]; done)), H', ⟨by have := HJ3.out; first | omega | exact Nat.le_refl _⟩, ⟨bg BK342.out⟩, ⟨bg BK343.out⟩, ⟨bg BK344.out⟩, ⟨bs HB.out⟩⟩
    case rest =>
     clear HC24
     try clear c1
     try clear c2
     try clear p2
     try clear c3
     try clear c4
     try clear c5
     try clear c6
     try clear c9
     try clear c9b0
     try clear c9b1
     try clear c11
     try clear c12
     try clear c15
     try clear c18
     try clear c19
     try clear c22
     try clear c25
     try clear c26
     try clear c28
     try clear c31
     try clear c31b0
     try clear c32
     try clear c32b0
     try clear c32b1
     try clear c33
     try clear c33b0
     try clear c33b1
     try clear c34
     try clear c35
     try clear c37
     try clear c39
     try clear c40
     try clear c42
     try clear c44
     try clear c45
     try clear hcz13_0 hcz13_1 hcz13_2 hcz13_3 hcz13_4
     try clear hcz16_0 hcz16_1 hcz16_2 hcz16_3 hcz16_4 hcz16_5 hcz16_6 hcz16_7 hcz16_8
     try clear hcz20_0 hcz20_1 hcz20_2 hcz20_3 hcz20_4
     try clear hcz27_0 hcz27_1
     try clear hcz29_0 hcz29_1 hcz29_2 hcz29_3 hcz29_4
     try clear hcz36_0 hcz36_1 hcz36_2 hcz36_3 hcz36_4 hcz36_5 hcz36_6 hcz36_7 hcz36_8
     try clear hcz38_0 hcz38_1 hcz38_2 hcz38_3 hcz38_4
     try clear hcz41_0 hcz41_1 hcz41_2 hcz41_3 hcz41_4 hcz41_5 hcz41_6 hcz41_7 hcz41_8
     try clear hcz43_0 hcz43_1 hcz43_2 hcz43_3 hcz43_4
     try clear hcz46_0 hcz46_1 hcz46_2 hcz46_3 hcz46_4 hcz46_5 hcz46_6 hcz46_7 hcz46_8
     try clear hfz13_0 hfz13_1 hfz13_2 hfz13_3 hfz13_4
     try clear hfz16_0 hfz16_1 hfz16_2 hfz16_3 hfz16_4 hfz16_5 hfz16_6 hfz16_7 hfz16_8
     try clear hfz20_0 hfz20_1 hfz20_2 hfz20_3 hfz20_4
     try clear hfz27_0 hfz27_1
     try clear hfz29_0 hfz29_1 hfz29_2 hfz29_3 hfz29_4
     try clear hfz36_0 hfz36_1 hfz36_2 hfz36_3 hfz36_4 hfz36_5 hfz36_6 hfz36_7 hfz36_8
     try clear hfz38_0 hfz38_1 hfz38_2 hfz38_3 hfz38_4
     try clear hfz41_0 hfz41_1 hfz41_2 hfz41_3 hfz41_4 hfz41_5 hfz41_6 hfz41_7 hfz41_8
     try clear hfz43_0 hfz43_1 hfz43_2 hfz43_3 hfz43_4
     try clear hfz46_0 hfz46_1 hfz46_2 hfz46_3 hfz46_4 hfz46_5 hfz46_6 hfz46_7 hfz46_8
     try clear p2
     obtain ⟨kq, x42_23, rfl, HA, HJ23, BK342, BK343, BK344, HB⟩ := hcut
     cases kq with
     | zero => exact absurd HA.out (by simp [trig_Holds.j1])
     | succ kj23 =>
      have H := HA.out
      clear HA
      simp only [trig_Holds.j1] at H
      by_cases c47 : x42_23 = true
      ·
       subst c47
       have H1 : (some false) = some r := by rw [if_pos rfl] at H; exact H
       clear H
       have H := H1
       clear H1
       obtain rfl := Option.some.inj H
       go_wp2
       go_ret
       exact ⟨by first | rfl | (simp [errW_none, errW_some] <;> rfl) | (simp [*, errW_none, errW_some] <;> rfl), bs HB.out⟩
      ·
       replace c47 := Bool.eq_false_iff.mpr c47
       subst c47
       have H1 : ((trig_field.f a2_2 a2_3 a2_4 a2_5 a2_6 a2_7 a2_8 a0_2).bind fun t348 => (if a0_3 = 1 then (some (t348 == a0_4)) else (if a0_3 = 2 then (some (t348 != a0_4)) else (if a0_3 = 3 then (some (decide (t348 < a0_4))) else (if a0_3 = 4 then (some (decide (t348 > a0_4))) else (if a0_3 = 5 then (some ((Go.bits .and .i64 t348 a0_4) == a0_4)) else (some true))))))) = some r := by rw [if_neg (show ¬ (false = true) by decide)] at H; exact H
       clear H
       have H := H1
       clear H1
       replace H := Option.bind_eq_some_iff.mp H
       obtain ⟨t348, A480, H⟩ := H
       replace H : (if a0_3 = 1 then (some (t348 == a0_4)) else (if a0_3 = 2 then (some (t348 != a0_4)) else (if a0_3 = 3 then (some (decide (t348 < a0_4))) else (if a0_3 = 4 then (some (decide (t348 > a0_4))) else (if a0_3 = 5 then (some ((Go.bits .and .i64 t348 a0_4) == a0_4)) else (some true)))))) = some r := H
       have A48 := Aside0.mk A480
       clear A480
       by_cases c49 : a0_3 = 1
       ·
        rw [if_pos c49] at H
        have c49b0 : (a0_3 == 1) = true := beq_iff_eq.mpr c49
        have c49b1 : (a0_3 != 1) = false := bne_eq_false_iff_eq.mpr c49
        clear c49
        obtain rfl := Option.some.inj H
        have hnb50 := NB344_342.out
        have hnc50 := NB342_344.out
        have hnb51 := NB344_343.out
        have hnc51 := NB343_344.out
        obtain ⟨hcz52_0, hcz52_1, hcz52_2, hcz52_3, hcz52_4, hcz52_5, hcz52_6, hcz52_7, hcz52_8⟩ := bc9 BK344.out
        obtain ⟨hfz52_0, hfz52_1, hfz52_2, hfz52_3, hfz52_4, hfz52_5, hfz52_6, hfz52_7, hfz52_8⟩ := bf9 BK344.out
        have hnb53 := NB342_343.out
        have hnc53 := NB343_342.out
        obtain ⟨hcz54_0, hcz54_1, hcz54_2, hcz54_3, hcz54_4⟩ := bc5 BK342.out
        obtain ⟨hfz54_0, hfz54_1, hfz54_2, hfz54_3, hfz54_4⟩ := bf5 BK342.out
        go_wp2_with (first | ((with_reducible refine gate_callee (f := 67) rfl ?_); refine goesL_ (some 47) rfl rfl Try.func67 (by kernel_rfl) rfl #[.agg #[.int .i64 a2_2, .int .i64 a2_3, .int .i64 a2_4, .int .i64 a2_5, .int .i64 a2_6, .string a2_7, .int .i64 a2_8], .int .i64 a0_2] rfl (by (try simp only [List.map_toArray, List.map_cons, List.map_nil]); first | done | rfl | (simp only [List.length_drop, List.length_take]; rfl)) ?_; (with_reducible refine (trig_field.calls a2_2 a2_3 a2_4 a2_5 a2_6 a2_7 a2_8 a0_2 t348 _ A48.out).mono ?_); rintro e w55 ⟨rfl, hb⟩; refine ⟨_, rfl, ?_⟩; have n0_ := Aside0.mk (blk_below (bg BK342.out) hb); have n1_ := Aside0.mk (blk_below (bg BK343.out) hb); have n2_ := Aside0.mk (blk_below (bg BK344.out) hb); have n3_ := Aside0.mk (below_step (bs HB.out) hb); clear BK342; clear BK343; clear BK344; clear HB; have BK342 := n0_; have BK343 := n1_; have BK344 := n2_; have HB := n3_; clear n0_ n1_ n2_ n3_; (try clear hb); (try clear hb2); (try clear hk); (try clear hi); obtain ⟨hcz56_0, hcz56_1, hcz56_2, hcz56_3, hcz56_4⟩ := bc5 BK342.out; obtain ⟨hfz56_0, hfz56_1, hfz56_2, hfz56_3, hfz56_4⟩ := bf5 BK342.out))
        go_ret
        exact ⟨by first | rfl | (simp [errW_none, errW_some] <;> rfl) | (simp [*, errW_none, errW_some] <;> rfl), bs HB.out⟩
       ·
        rw [if_neg c49] at H
        have c49b0 : (a0_3 == 1) = false := beq_eq_false_iff_ne.mpr c49
        have c49b1 : (a0_3 != 1) = true := bne_iff_ne.mpr c49
        by_cases c57 : a0_3 = 2
        ·
         rw [if_pos c57] at H
         have c57b0 : (a0_3 == 2) = true := beq_iff_eq.mpr c57
         have c57b1 : (a0_3 != 2) = false := bne_eq_false_iff_eq.mpr c57
         clear c57
         obtain rfl := Option.some.inj H
         have hnb58 := NB344_342.out
         have hnc58 := NB342_344.out
         have hnb59 := NB344_343.out
         have hnc59 := NB343_344.out
         obtain ⟨hcz60_0, hcz60_1, hcz60_2, hcz60_3, hcz60_4, hcz60_5, hcz60_6, hcz60_7, hcz60_8⟩ := bc9 BK344.out
         obtain ⟨hfz60_0, hfz60_1, hfz60_2, hfz60_3, hfz60_4, hfz60_5, hfz60_6, hfz60_7, hfz60_8⟩ := bf9 BK344.out
         have hnb61 := NB342_343.out
         have hnc61 := NB343_342.out
         obtain ⟨hcz62_0, hcz62_1, hcz62_2, hcz62_3, hcz62_4⟩ := bc5 BK342.out
         obtain ⟨hfz62_0, hfz62_1, hfz62_2, hfz62_3, hfz62_4⟩ := bf5 BK342.out
         go_wp2_with (first | ((with_reducible refine gate_callee (f := 67) rfl ?_); refine goesL_ (some 47) rfl rfl Try.func67 (by kernel_rfl) rfl #[.agg #[.int .i64 a2_2, .int .i64 a2_3, .int .i64 a2_4, .int .i64 a2_5, .int .i64 a2_6, .string a2_7, .int .i64 a2_8], .int .i64 a0_2] rfl (by (try simp only [List.map_toArray, List.map_cons, List.map_nil]); first | done | rfl | (simp only [List.length_drop, List.length_take]; rfl)) ?_; (with_reducible refine (trig_field.calls a2_2 a2_3 a2_4 a2_5 a2_6 a2_7 a2_8 a0_2 t348 _ A48.out).mono ?_); rintro e w63 ⟨rfl, hb⟩; refine ⟨_, rfl, ?_⟩; have n0_ := Aside0.mk (blk_below (bg BK342.out) hb); have n1_ := Aside0.mk (blk_below (bg BK343.out) hb); have n2_ := Aside0.mk (blk_below (bg BK344.out) hb); have n3_ := Aside0.mk (below_step (bs HB.out) hb); clear BK342; clear BK343; clear BK344; clear HB; have BK342 := n0_; have BK343 := n1_; have BK344 := n2_; have HB := n3_; clear n0_ n1_ n2_ n3_; (try clear hb); (try clear hb2); (try clear hk); (try clear hi); obtain ⟨hcz64_0, hcz64_1, hcz64_2, hcz64_3, hcz64_4⟩ := bc5 BK342.out; obtain ⟨hfz64_0, hfz64_1, hfz64_2, hfz64_3, hfz64_4⟩ := bf5 BK342.out))
         go_ret
         exact ⟨by first | rfl | (simp [errW_none, errW_some] <;> rfl) | (simp [*, errW_none, errW_some] <;> rfl), bs HB.out⟩
        ·
         rw [if_neg c57] at H
         have c57b0 : (a0_3 == 2) = false := beq_eq_false_iff_ne.mpr c57
         have c57b1 : (a0_3 != 2) = true := bne_iff_ne.mpr c57
         by_cases c65 : a0_3 = 3
         ·
          rw [if_pos c65] at H
          have c65b0 : (a0_3 == 3) = true := beq_iff_eq.mpr c65
          have c65b1 : (a0_3 != 3) = false := bne_eq_false_iff_eq.mpr c65
          clear c65
          obtain rfl := Option.some.inj H
          have hnb66 := NB344_342.out
          have hnc66 := NB342_344.out
          have hnb67 := NB344_343.out
          have hnc67 := NB343_344.out
          obtain ⟨hcz68_0, hcz68_1, hcz68_2, hcz68_3, hcz68_4, hcz68_5, hcz68_6, hcz68_7, hcz68_8⟩ := bc9 BK344.out
          obtain ⟨hfz68_0, hfz68_1, hfz68_2, hfz68_3, hfz68_4, hfz68_5, hfz68_6, hfz68_7, hfz68_8⟩ := bf9 BK344.out
          have hnb69 := NB342_343.out
          have hnc69 := NB343_342.out
          obtain ⟨hcz70_0, hcz70_1, hcz70_2, hcz70_3, hcz70_4⟩ := bc5 BK342.out
          obtain ⟨hfz70_0, hfz70_1, hfz70_2, hfz70_3, hfz70_4⟩ := bf5 BK342.out
          go_wp2_with (first | ((with_reducible refine gate_callee (f := 67) rfl ?_); refine goesL_ (some 47) rfl rfl Try.func67 (by kernel_rfl) rfl #[.agg #[.int .i64 a2_2, .int .i64 a2_3, .int .i64 a2_4, .int .i64 a2_5, .int .i64 a2_6, .string a2_7, .int .i64 a2_8], .int .i64 a0_2] rfl (by (try simp only [List.map_toArray, List.map_cons, List.map_nil]); first | done | rfl | (simp only [List.length_drop, List.length_take]; rfl)) ?_; (with_reducible refine (trig_field.calls a2_2 a2_3 a2_4 a2_5 a2_6 a2_7 a2_8 a0_2 t348 _ A48.out).mono ?_); rintro e w71 ⟨rfl, hb⟩; refine ⟨_, rfl, ?_⟩; have n0_ := Aside0.mk (blk_below (bg BK342.out) hb); have n1_ := Aside0.mk (blk_below (bg BK343.out) hb); have n2_ := Aside0.mk (blk_below (bg BK344.out) hb); have n3_ := Aside0.mk (below_step (bs HB.out) hb); clear BK342; clear BK343; clear BK344; clear HB; have BK342 := n0_; have BK343 := n1_; have BK344 := n2_; have HB := n3_; clear n0_ n1_ n2_ n3_; (try clear hb); (try clear hb2); (try clear hk); (try clear hi); obtain ⟨hcz72_0, hcz72_1, hcz72_2, hcz72_3, hcz72_4⟩ := bc5 BK342.out; obtain ⟨hfz72_0, hfz72_1, hfz72_2, hfz72_3, hfz72_4⟩ := bf5 BK342.out))
          go_ret
          exact ⟨by first | rfl | (simp [errW_none, errW_some] <;> rfl) | (simp [*, errW_none, errW_some] <;> rfl), bs HB.out⟩
         ·
          rw [if_neg c65] at H
          have c65b0 : (a0_3 == 3) = false := beq_eq_false_iff_ne.mpr c65
          have c65b1 : (a0_3 != 3) = true := bne_iff_ne.mpr c65
          by_cases c73 : a0_3 = 4
          ·
           rw [if_pos c73] at H
           have c73b0 : (a0_3 == 4) = true := beq_iff_eq.mpr c73
           have c73b1 : (a0_3 != 4) = false := bne_eq_false_iff_eq.mpr c73
           clear c73
           obtain rfl := Option.some.inj H
           have hnb74 := NB344_342.out
           have hnc74 := NB342_344.out
           have hnb75 := NB344_343.out
           have hnc75 := NB343_344.out
           obtain ⟨hcz76_0, hcz76_1, hcz76_2, hcz76_3, hcz76_4, hcz76_5, hcz76_6, hcz76_7, hcz76_8⟩ := bc9 BK344.out
           obtain ⟨hfz76_0, hfz76_1, hfz76_2, hfz76_3, hfz76_4, hfz76_5, hfz76_6, hfz76_7, hfz76_8⟩ := bf9 BK344.out
           have hnb77 := NB342_343.out
           have hnc77 := NB343_342.out
           obtain ⟨hcz78_0, hcz78_1, hcz78_2, hcz78_3, hcz78_4⟩ := bc5 BK342.out
           obtain ⟨hfz78_0, hfz78_1, hfz78_2, hfz78_3, hfz78_4⟩ := bf5 BK342.out
           go_wp2_with (first | ((with_reducible refine gate_callee (f := 67) rfl ?_); refine goesL_ (some 47) rfl rfl Try.func67 (by kernel_rfl) rfl #[.agg #[.int .i64 a2_2, .int .i64 a2_3, .int .i64 a2_4, .int .i64 a2_5, .int .i64 a2_6, .string a2_7, .int .i64 a2_8], .int .i64 a0_2] rfl (by (try simp only [List.map_toArray, List.map_cons, List.map_nil]); first | done | rfl | (simp only [List.length_drop, List.length_take]; rfl)) ?_; (with_reducible refine (trig_field.calls a2_2 a2_3 a2_4 a2_5 a2_6 a2_7 a2_8 a0_2 t348 _ A48.out).mono ?_); rintro e w79 ⟨rfl, hb⟩; refine ⟨_, rfl, ?_⟩; have n0_ := Aside0.mk (blk_below (bg BK342.out) hb); have n1_ := Aside0.mk (blk_below (bg BK343.out) hb); have n2_ := Aside0.mk (blk_below (bg BK344.out) hb); have n3_ := Aside0.mk (below_step (bs HB.out) hb); clear BK342; clear BK343; clear BK344; clear HB; have BK342 := n0_; have BK343 := n1_; have BK344 := n2_; have HB := n3_; clear n0_ n1_ n2_ n3_; (try clear hb); (try clear hb2); (try clear hk); (try clear hi); obtain ⟨hcz80_0, hcz80_1, hcz80_2, hcz80_3, hcz80_4⟩ := bc5 BK342.out; obtain ⟨hfz80_0, hfz80_1, hfz80_2, hfz80_3, hfz80_4⟩ := bf5 BK342.out))
           go_ret
           exact ⟨by first | rfl | (simp [errW_none, errW_some] <;> rfl) | (simp [*, errW_none, errW_some] <;> rfl), bs HB.out⟩
          ·
           rw [if_neg c73] at H
           have c73b0 : (a0_3 == 4) = false := beq_eq_false_iff_ne.mpr c73
           have c73b1 : (a0_3 != 4) = true := bne_iff_ne.mpr c73
           by_cases c81 : a0_3 = 5
           ·
            rw [if_pos c81] at H
            have c81b0 : (a0_3 == 5) = true := beq_iff_eq.mpr c81
            have c81b1 : (a0_3 != 5) = false := bne_eq_false_iff_eq.mpr c81
            clear c81
            obtain rfl := Option.some.inj H
            have hnb82 := NB344_342.out
            have hnc82 := NB342_344.out
            have hnb83 := NB344_343.out
            have hnc83 := NB343_344.out
            obtain ⟨hcz84_0, hcz84_1, hcz84_2, hcz84_3, hcz84_4, hcz84_5, hcz84_6, hcz84_7, hcz84_8⟩ := bc9 BK344.out
            obtain ⟨hfz84_0, hfz84_1, hfz84_2, hfz84_3, hfz84_4, hfz84_5, hfz84_6, hfz84_7, hfz84_8⟩ := bf9 BK344.out
            have hnb85 := NB342_343.out
            have hnc85 := NB343_342.out
            obtain ⟨hcz86_0, hcz86_1, hcz86_2, hcz86_3, hcz86_4⟩ := bc5 BK342.out
            obtain ⟨hfz86_0, hfz86_1, hfz86_2, hfz86_3, hfz86_4⟩ := bf5 BK342.out
            go_wp2_with (first | ((with_reducible refine gate_callee (f := 67) rfl ?_); refine goesL_ (some 47) rfl rfl Try.func67 (by kernel_rfl) rfl #[.agg #[.int .i64 a2_2, .int .i64 a2_3, .int .i64 a2_4, .int .i64 a2_5, .int .i64 a2_6, .string a2_7, .int .i64 a2_8], .int .i64 a0_2] rfl (by (try simp only [List.map_toArray, List.map_cons, List.map_nil]); first | done | rfl | (simp only [List.length_drop, List.length_take]; rfl)) ?_; (with_reducible refine (trig_field.calls a2_2 a2_3 a2_4 a2_5 a2_6 a2_7 a2_8 a0_2 t348 _ A48.out).mono ?_); rintro e w87 ⟨rfl, hb⟩; refine ⟨_, rfl, ?_⟩; have n0_ := Aside0.mk (blk_below (bg BK342.out) hb); have n1_ := Aside0.mk (blk_below (bg BK343.out) hb); have n2_ := Aside0.mk (blk_below (bg BK344.out) hb); have n3_ := Aside0.mk (below_step (bs HB.out) hb); clear BK342; clear BK343; clear BK344; clear HB; have BK342 := n0_; have BK343 := n1_; have BK344 := n2_; have HB := n3_; clear n0_ n1_ n2_ n3_; (try clear hb); (try clear hb2); (try clear hk); (try clear hi); obtain ⟨hcz88_0, hcz88_1, hcz88_2, hcz88_3, hcz88_4⟩ := bc5 BK342.out; obtain ⟨hfz88_0, hfz88_1, hfz88_2, hfz88_3, hfz88_4⟩ := bf5 BK342.out))
            go_ret
            exact ⟨by first | rfl | (simp [errW_none, errW_some] <;> rfl) | (simp [*, errW_none, errW_some] <;> rfl), bs HB.out⟩
           ·
            rw [if_neg c81] at H
            have c81b0 : (a0_3 == 5) = false := beq_eq_false_iff_ne.mpr c81
            have c81b1 : (a0_3 != 5) = true := bne_iff_ne.mpr c81
            obtain rfl := Option.some.inj H
            have hnb89 := NB344_342.out
            have hnc89 := NB342_344.out
            have hnb90 := NB344_343.out
            have hnc90 := NB343_344.out
            obtain ⟨hcz91_0, hcz91_1, hcz91_2, hcz91_3, hcz91_4, hcz91_5, hcz91_6, hcz91_7, hcz91_8⟩ := bc9 BK344.out
            obtain ⟨hfz91_0, hfz91_1, hfz91_2, hfz91_3, hfz91_4, hfz91_5, hfz91_6, hfz91_7, hfz91_8⟩ := bf9 BK344.out
            have hnb92 := NB342_343.out
            have hnc92 := NB343_342.out
            obtain ⟨hcz93_0, hcz93_1, hcz93_2, hcz93_3, hcz93_4⟩ := bc5 BK342.out
            obtain ⟨hfz93_0, hfz93_1, hfz93_2, hfz93_3, hfz93_4⟩ := bf5 BK342.out
            go_wp2_with (first | ((with_reducible refine gate_callee (f := 67) rfl ?_); refine goesL_ (some 47) rfl rfl Try.func67 (by kernel_rfl) rfl #[.agg #[.int .i64 a2_2, .int .i64 a2_3, .int .i64 a2_4, .int .i64 a2_5, .int .i64 a2_6, .string a2_7, .int .i64 a2_8], .int .i64 a0_2] rfl (by (try simp only [List.map_toArray, List.map_cons, List.map_nil]); first | done | rfl | (simp only [List.length_drop, List.length_take]; rfl)) ?_; (with_reducible refine (trig_field.calls a2_2 a2_3 a2_4 a2_5 a2_6 a2_7 a2_8 a0_2 t348 _ A48.out).mono ?_); rintro e w94 ⟨rfl, hb⟩; refine ⟨_, rfl, ?_⟩; have n0_ := Aside0.mk (blk_below (bg BK342.out) hb); have n1_ := Aside0.mk (blk_below (bg BK343.out) hb); have n2_ := Aside0.mk (blk_below (bg BK344.out) hb); have n3_ := Aside0.mk (below_step (bs HB.out) hb); clear BK342; clear BK343; clear BK344; clear HB; have BK342 := n0_; have BK343 := n1_; have BK344 := n2_; have HB := n3_; clear n0_ n1_ n2_ n3_; (try clear hb); (try clear hb2); (try clear hk); (try clear hi); obtain ⟨hcz95_0, hcz95_1, hcz95_2, hcz95_3, hcz95_4⟩ := bc5 BK342.out; obtain ⟨hfz95_0, hfz95_1, hfz95_2, hfz95_3, hfz95_4⟩ := bf5 BK342.out))
            go_ret
            exact ⟨by first | rfl | (simp [errW_none, errW_some] <;> rfl) | (simp [*, errW_none, errW_some] <;> rfl), bs HB.out⟩

end Go.Proofs.Ytgdjiphljadlcaa.H
