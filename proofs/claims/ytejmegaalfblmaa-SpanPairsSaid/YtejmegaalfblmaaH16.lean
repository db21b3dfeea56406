-- Printed by wip/hprint.py (this project's own driver of the kit's print) out of the translation; Lean checks it.
import Derived.Test.YtejmegaalfblmaaH0
import Derived.Test.YtejmegaalfblmaaH1
import Derived.Test.YtejmegaalfblmaaH3
import Derived.Test.YtejmegaalfblmaaH4
import Derived.Test.YtejmegaalfblmaaH12
import Derived.Test.YtejmegaalfblmaaH13
import Derived.Test.YtejmegaalfblmaaH14
import Derived.Test.YtejmegaalfblmaaH15
import Derived.Test.YtejmegaalfblmaaHCommon
namespace Go.Proofs.Ytejmegaalfblmaa.H
open Go.RowKit Go.Proofs.YtejmegaalfblmaaW.PrintWords Go.Proofs.YtejmegaalfblmaaW.PrintLast Go.Proofs.YtejmegaalfblmaaW.PrintMore
attribute [local go_sem] max2_int min2_int max_two min_two max_three min_three max_four min_four   -- for this text's walks alone
set_option linter.unusedVariables false
set_option linter.unusedSimpArgs false

attribute [local go_sem high] eqA25
/-! ### signalbenchlaw06_SpanPairs: function 5 -/
def signalbenchlaw06_SpanPairs.f (k : Nat) (a0_0 : Int) (a0_1 : Int) (a1_0 : Int) (a1_1 : Int) : Option (Bool) := (signalbenchlaw06_lives.f).bind fun t183 => (if t183 = true then ((span_Common.f a0_0 a0_1 a1_0 a1_1).bind fun bt184 => ((signalbenchref06_Common.f k a0_0 a0_1 a1_0 a1_1).bind fun bt188 => ((span_Valid.f a0_0 a0_1).bind fun t192 => ((signalbenchref06_Valid.f a0_0 a0_1).bind fun t193 => (if (t192 == t193) = true then ((span_Meets.f a0_0 a0_1 a1_0 a1_1).bind fun t194 => ((signalbenchref06_Meets.f k a0_0 a0_1 a1_0 a1_1).bind fun t195 => (if (t194 == t195) = true then (if (bt184.1 == bt188.1 && (bt184.2.1 == bt188.2.1)) = true then (some (bt184.2.2 == bt188.2.2)) else (some false)) else (some false)))) else (some false)))))) else (some false))
theorem signalbenchlaw06_SpanPairs.mono : ∀ a0 a1 a2 a3 k, LeO (signalbenchlaw06_SpanPairs.f k a0 a1 a2 a3) (signalbenchlaw06_SpanPairs.f (k + 1) a0 a1 a2 a3) := by
 intro a0 a1 a2 a3 k
 unfold signalbenchlaw06_SpanPairs.f
 repeat' first
   | (with_reducible exact signalbenchref06_Common.mono _ _ _ _ _)
   | (with_reducible exact signalbenchref06_Meets.mono _ _ _ _ _)
   | (with_reducible exact LeO.refl _)
   | (with_reducible exact LeO.none _)
   | (with_reducible refine LeO.ite ?_ ?_)
   | (with_reducible refine LeO.bind ?_ (fun _ => ?_))
   | exact signalbenchref06_Common.mono _ _ _ _ _
   | exact signalbenchref06_Meets.mono _ _ _ _ _
   | exact LeO.none _
   | refine LeO.ite ?_ ?_
   | refine LeO.bind ?_ (fun _ => ?_)
def signalbenchlaw06_SpanPairs.T5 : Bool × List (List Nat × List Nat) := (true, [([], []), ([0], [0]), ([], []), ([2, 1], [2]), ([1, 3], [1, 3]), ([4, 3], [4]), ([5], [5]), ([5], [5]), ([6, 7, 5, 5], [5, 6, 7]), ([5], [5]), ([5], [5]), ([9, 10, 8, 5], [5, 9, 10]), ([8, 11, 5], [5, 8, 11]), ([5, 12], [5, 12]), ([13, 11], [13]), ([14], [14]), ([14], [14]), ([15, 16, 14], [14, 15, 16]), ([14, 17], [14, 17]), ([18, 14], [18]), ([19], [19]), ([19], [19]), ([20, 21, 19], [19, 20, 21]), ([19, 22], [19, 22]), ([23, 19, 0, 1, 2, 3, 4, 5, 6, 7, 8, 9, 10, 11, 12, 13, 14, 15, 16, 17, 18, 19, 20, 21, 22, 23], [23])])
def signalbenchlaw06_SpanPairs.B5 : List Nat := [0, 1, 0, 7, 15, 31, 63, 63, 255, 63, 63, 2047, 4095, 8191, 16383, 32767, 32767, 131071, 262143, 524287, 1048575, 1048575, 4194303, 8388607, 16777215]
theorem signalbenchlaw06_SpanPairs.tab5 : rtab .any (opsOf Try.f5 5) = signalbenchlaw06_SpanPairs.T5 := by kernel_rfl
theorem signalbenchlaw06_SpanPairs.bits5 : waitsOk signalbenchlaw06_SpanPairs.T5.2 signalbenchlaw06_SpanPairs.B5 = true := by kernel_rfl
set_option maxHeartbeats 8000000 in
set_option maxRecDepth 100000 in
theorem signalbenchlaw06_SpanPairs.calls (k : Nat) (a0_0 : Int) (a0_1 : Int) (a1_0 : Int) (a1_1 : Int) (r : Bool) (w : World) (h : signalbenchlaw06_SpanPairs.f k a0_0 a0_1 a1_0 a1_1 = some r) :
  Calls Try.prog 5 #[.agg #[.int .i64 a0_0, .int .i64 a0_1], .agg #[.int .i64 a1_0, .int .i64 a1_1]] w fun e w' => e = .returned (.bool r) ∧ Below w.heap.size w w' := by
 have hu25 := Try.underlying25
 have HB := Aside0.mk (Below.refl w.heap.size w)
 have H : ((signalbenchlaw06_lives.f).bind fun t183 => (if t183 = true then ((span_Common.f a0_0 a0_1 a1_0 a1_1).bind fun bt184 => ((signalbenchref06_Common.f k a0_0 a0_1 a1_0 a1_1).bind fun bt188 => ((span_Valid.f a0_0 a0_1).bind fun t192 => ((signalbenchref06_Valid.f a0_0 a0_1).bind fun t193 => (if (t192 == t193) = true then ((span_Meets.f a0_0 a0_1 a1_0 a1_1).bind fun t194 => ((signalbenchref06_Meets.f k a0_0 a0_1 a1_0 a1_1).bind fun t195 => (if (t194 == t195) = true then (if (bt184.1 == bt188.1 && (bt184.2.1 == bt188.2.1)) = true then (some (bt184.2.2 == bt188.2.2)) else (some false)) else (some false)))) else (some false)))))) else (some false))) = some r := h
 clear h
 replace H := Option.bind_eq_some_iff.mp H
 obtain ⟨t183, A30, H⟩ := H
 replace H : (if t183 = true then ((span_Common.f a0_0 a0_1 a1_0 a1_1).bind fun bt184 => ((signalbenchref06_Common.f k a0_0 a0_1 a1_0 a1_1).bind fun bt188 => ((span_Valid.f a0_0 a0_1).bind fun t192 => ((signalbenchref06_Valid.f a0_0 a0_1).bind fun t193 => (if (t192 == t193) = true then ((span_Meets.f a0_0 a0_1 a1_0 a1_1).bind fun t194 => ((signalbenchref06_Meets.f k a0_0 a0_1 a1_0 a1_1).bind fun t195 => (if (t194 == t195) = true then (if (bt184.1 == bt188.1 && (bt184.2.1 == bt188.2.1)) = true then (some (bt184.2.2 == bt188.2.2)) else (some false)) else (some false)))) else (some false)))))) else (some false)) = some r := H
 have A3 := Aside0.mk A30
 clear A30
 by_cases c4 : t183 = true
 ·
  subst c4
  have H1 : ((span_Common.f a0_0 a0_1 a1_0 a1_1).bind fun bt184 => ((signalbenchref06_Common.f k a0_0 a0_1 a1_0 a1_1).bind fun bt188 => ((span_Valid.f a0_0 a0_1).bind fun t192 => ((signalbenchref06_Valid.f a0_0 a0_1).bind fun t193 => (if (t192 == t193) = true then ((span_Meets.f a0_0 a0_1 a1_0 a1_1).bind fun t194 => ((signalbenchref06_Meets.f k a0_0 a0_1 a1_0 a1_1).bind fun t195 => (if (t194 == t195) = true then (if (bt184.1 == bt188.1 && (bt184.2.1 == bt188.2.1)) = true then (some (bt184.2.2 == bt188.2.2)) else (some false)) else (some false)))) else (some false)))))) = some r := by rw [if_pos rfl] at H; exact H
  clear H
  have H := H1
  clear H1
  replace H := Option.bind_eq_some_iff.mp H
  obtain ⟨⟨t184, t185, t186⟩, A50, H⟩ := H
  replace H : ((signalbenchref06_Common.f k a0_0 a0_1 a1_0 a1_1).bind fun bt188 => ((span_Valid.f a0_0 a0_1).bind fun t192 => ((signalbenchref06_Valid.f a0_0 a0_1).bind fun t193 => (if (t192 == t193) = true then ((span_Meets.f a0_0 a0_1 a1_0 a1_1).bind fun t194 => ((signalbenchref06_Meets.f k a0_0 a0_1 a1_0 a1_1).bind fun t195 => (if (t194 == t195) = true then (if (t184 == bt188.1 && (t185 == bt188.2.1)) = true then (some (t186 == bt188.2.2)) else (some false)) else (some false)))) else (some false))))) = some r := H
  have A5 := Aside0.mk A50
  clear A50
  replace H := Option.bind_eq_some_iff.mp H
  obtain ⟨⟨t188, t189, t190⟩, A60, H⟩ := H
  replace H : ((span_Valid.f a0_0 a0_1).bind fun t192 => ((signalbenchref06_Valid.f a0_0 a0_1).bind fun t193 => (if (t192 == t193) = true then ((span_Meets.f a0_0 a0_1 a1_0 a1_1).bind fun t194 => ((signalbenchref06_Meets.f k a0_0 a0_1 a1_0 a1_1).bind fun t195 => (if (t194 == t195) = true then (if (t184 == t188 && (t185 == t189)) = true then (some (t186 == t190)) else (some false)) else (some false)))) else (some false)))) = some r := H
  have A6 := Aside0.mk A60
  clear A60
  replace H := Option.bind_eq_some_iff.mp H
  obtain ⟨t192, A70, H⟩ := H
  replace H : ((signalbenchref06_Valid.f a0_0 a0_1).bind fun t193 => (if (t192 == t193) = true then ((span_Meets.f a0_0 a0_1 a1_0 a1_1).bind fun t194 => ((signalbenchref06_Meets.f k a0_0 a0_1 a1_0 a1_1).bind fun t195 => (if (t194 == t195) = true then (if (t184 == t188 && (t185 == t189)) = true then (some (t186 == t190)) else (some false)) else (some false)))) else (some false))) = some r := H
  have A7 := Aside0.mk A70
  clear A70
  replace H := Option.bind_eq_some_iff.mp H
  obtain ⟨t193, A80, H⟩ := H
  replace H : (if (t192 == t193) = true then ((span_Meets.f a0_0 a0_1 a1_0 a1_1).bind fun t194 => ((signalbenchref06_Meets.f k a0_0 a0_1 a1_0 a1_1).bind fun t195 => (if (t194 == t195) = true then (if (t184 == t188 && (t185 == t189)) = true then (some (t186 == t190)) else (some false)) else (some false)))) else (some false)) = some r := H
  have A8 := Aside0.mk A80
  clear A80
  by_cases c9 : (t192 == t193) = true
  ·
   rw [if_pos c9] at H
   have c9b0 : (t192 == t193) = true := c9
   (try (have c9b1 : decide (t192 = t193) = true := by simpa using c9))
   (try (have c9b2 : (t192 == t193) = true := by simpa using c9))
   clear c9
   replace H := Option.bind_eq_some_iff.mp H
   obtain ⟨t194, A100, H⟩ := H
   replace H : ((signalbenchref06_Meets.f k a0_0 a0_1 a1_0 a1_1).bind fun t195 => (if (t194 == t195) = true then (if (t184 == t188 && (t185 == t189)) = true then (some (t186 == t190)) else (some false)) else (some false))) = some r := H
   have A10 := Aside0.mk A100
   clear A100
   replace H := Option.bind_eq_some_iff.mp H
   obtain ⟨t195, A110, H⟩ := H
   replace H : (if (t194 == t195) = true then (if (t184 == t188 && (t185 == t189)) = true then (some (t186 == t190)) else (some false)) else (some false)) = some r := H
   have A11 := Aside0.mk A110
   clear A110
   by_cases c12 : (t194 == t195) = true
   ·
    rw [if_pos c12] at H
    have c12b0 : (t194 == t195) = true := c12
    (try (have c12b1 : decide (t194 = t195) = true := by simpa using c12))
    (try (have c12b2 : (t194 == t195) = true := by simpa using c12))
    clear c12
    by_cases c13 : (t184 == t188 && (t185 == t189)) = true
    ·
     rw [if_pos c13] at H
     have c13b0 : (t184 == t188 && (t185 == t189)) = true := c13
     (try (have c13b1 : decide (t184 = t188 && (t185 == t189)) = true := by simpa using c13))
     (try (have c13b2 : (t184 == t188 && (t185 == t189)) = true := by simpa using c13))
     clear c13
     obtain rfl := Option.some.inj H
     go_enter Try.func5, Try.ntmps5
     try go_wp2_with (first | ((with_reducible refine gate_dst (N := 2) rfl ?_); refine box_event ?hg (N := 2) ?hd (cs := #[.int .i64 a0_0, .int .i64 a0_1]) (t := 25) ?hr ?_; (case hd => rfl); (case hg => rfl); (case hr => first | (go_simp; done) | (go_simp; rfl)); intro gb181 hg w14 hbox hb; have n0_ := Aside0.mk (below_step (bs HB.out) hb); have n1_ := Aside0.mk (hbox); have n2_ := Aside0.mk ((by rw [hg]; exact (below_size (bs HB.out)) : w.heap.size ≤ gb181)); have n3_ := n2_; clear HB; have HB := n0_; have BK181 := n1_; have GW181 := n2_; have GE181 := n3_; clear n0_ n1_ n2_ n3_; clear hb hbox hg) | ((with_reducible refine gate_dst (N := 3) rfl ?_); refine box_event ?hg (N := 3) ?hd (cs := #[.int .i64 a1_0, .int .i64 a1_1]) (t := 25) ?hr ?_; (case hd => rfl); (case hg => rfl); (case hr => first | (go_simp; done) | (go_simp; rfl)); intro gb182 hg w15 hbox hb; have n0_ := Aside0.mk (blk_below (bg BK181.out) hb); have n1_ := Aside0.mk (below_step (bs HB.out) hb); have n2_ := Aside0.mk (hbox); have n3_ := Aside0.mk ((by rw [hg]; exact (below_size (bs HB.out)) : w.heap.size ≤ gb182)); have n4_ := n3_; have n5_ := Aside0.mk ((by rw [hg]; exact Nat.ne_of_lt (blk_lt (bg BK181.out)) : gb181 ≠ gb182)); have n6_ := Aside0.mk ((by rw [hg]; exact Nat.ne_of_gt (blk_lt (bg BK181.out)) : gb182 ≠ gb181)); clear BK181; clear HB; have BK181 := n0_; have HB := n1_; have BK182 := n2_; have GW182 := n3_; have GE182 := n4_; have NB181_182 := n5_; have NB182_181 := n6_; clear n0_ n1_ n2_ n3_ n4_ n5_ n6_; clear hb hbox hg) | ((with_reducible refine gate_callee (f := 9) rfl ?_); refine goesL_ (some 9) rfl rfl Try.func9 (by kernel_rfl) rfl #[] rfl (by (try simp only [List.map_toArray, List.map_cons, List.map_nil]); first | done | rfl | (simp only [List.length_drop, List.length_take]; rfl)) ?_; (with_reducible refine (signalbenchlaw06_lives.calls  true _ A3.out).mono ?_); rintro e w16 ⟨rfl, hb⟩; refine ⟨_, rfl, ?_⟩; have n0_ := Aside0.mk (blk_below (bg BK181.out) hb); have n1_ := Aside0.mk (blk_below (bg BK182.out) hb); have n2_ := Aside0.mk (below_step (bs HB.out) hb); clear BK181; clear BK182; clear HB; have BK181 := n0_; have BK182 := n1_; have HB := n2_; clear n0_ n1_ n2_; (try clear hb); (try clear hb2); (try clear hk); (try clear hi); have hnb17 := NB181_182.out; have hnc17 := NB182_181.out; obtain ⟨hcz18_0, hcz18_1⟩ := bc2 BK181.out; obtain ⟨hfz18_0, hfz18_1⟩ := bf2 BK181.out; obtain ⟨hcz19_0, hcz19_1⟩ := bc2 BK182.out; obtain ⟨hfz19_0, hfz19_1⟩ := bf2 BK182.out) | ((with_reducible refine gate_callee (f := 15) rfl ?_); refine goesL_ (some 14) rfl rfl Try.func15 (by kernel_rfl) rfl #[.agg #[.int .i64 a0_0, .int .i64 a0_1], .agg #[.int .i64 a1_0, .int .i64 a1_1]] rfl (by (try simp only [List.map_toArray, List.map_cons, List.map_nil]); first | done | rfl | (simp only [List.length_drop, List.length_take]; rfl)) ?_; (with_reducible refine (span_Common.calls a0_0 a0_1 a1_0 a1_1 t184 t185 t186 _ A5.out).mono ?_); rintro e w20 ⟨rfl, hb⟩; refine ⟨_, rfl, ?_⟩; have n0_ := Aside0.mk (blk_below (bg BK181.out) hb); have n1_ := Aside0.mk (blk_below (bg BK182.out) hb); have n2_ := Aside0.mk (below_step (bs HB.out) hb); clear BK181; clear BK182; clear HB; have BK181 := n0_; have BK182 := n1_; have HB := n2_; clear n0_ n1_ n2_; (try clear hb); (try clear hb2); (try clear hk); (try clear hi)) | ((with_reducible refine gate_dst (N := 5) rfl ?_); refine box_event ?hg (N := 5) ?hd (cs := #[.int .i64 0, .int .i64 0]) (t := 25) ?hr ?_; (case hd => rfl); (case hg => rfl); (case hr => first | (go_simp; done) | (go_simp; rfl)); intro gb187 hg w21 hbox hb; have n0_ := Aside0.mk (blk_below (bg BK181.out) hb); have n1_ := Aside0.mk (blk_below (bg BK182.out) hb); have n2_ := Aside0.mk (below_step (bs HB.out) hb); have n3_ := Aside0.mk (hbox); have n4_ := Aside0.mk ((by rw [hg]; exact (below_size (bs HB.out)) : w.heap.size ≤ gb187)); have n5_ := n4_; have n6_ := Aside0.mk ((by rw [hg]; exact Nat.ne_of_lt (blk_lt (bg BK181.out)) : gb181 ≠ gb187)); have n7_ := Aside0.mk ((by rw [hg]; exact Nat.ne_of_gt (blk_lt (bg BK181.out)) : gb187 ≠ gb181)); have n8_ := Aside0.mk ((by rw [hg]; exact Nat.ne_of_lt (blk_lt (bg BK182.out)) : gb182 ≠ gb187)); have n9_ := Aside0.mk ((by rw [hg]; exact Nat.ne_of_gt (blk_lt (bg BK182.out)) : gb187 ≠ gb182)); clear BK181; clear BK182; clear HB; have BK181 := n0_; have BK182 := n1_; have HB := n2_; have BK187 := n3_; have GW187 := n4_; have GE187 := n5_; have NB181_187 := n6_; have NB187_181 := n7_; have NB182_187 := n8_; have NB187_182 := n9_; clear n0_ n1_ n2_ n3_ n4_ n5_ n6_ n7_ n8_ n9_; clear hb hbox hg; have hnb22 := NB187_181.out; have hnc22 := NB181_187.out; have hnb23 := NB187_182.out; have hnc23 := NB182_187.out; obtain ⟨hcz24_0, hcz24_1⟩ := bc2 BK187.out; obtain ⟨hfz24_0, hfz24_1⟩ := bf2 BK187.out; obtain ⟨hcz25_0, hcz25_1⟩ := bc2 BK181.out; obtain ⟨hfz25_0, hfz25_1⟩ := bf2 BK181.out; obtain ⟨hcz26_0, hcz26_1⟩ := bc2 BK182.out; obtain ⟨hfz26_0, hfz26_1⟩ := bf2 BK182.out) | ((with_reducible refine gate_callee (f := 16) rfl ?_); refine goesL_ (some 20) rfl rfl Try.func16 (by kernel_rfl) rfl #[.agg #[.int .i64 a0_0, .int .i64 a0_1], .agg #[.int .i64 a1_0, .int .i64 a1_1]] rfl (by (try simp only [List.map_toArray, List.map_cons, List.map_nil]); first | done | rfl | (simp only [List.length_drop, List.length_take]; rfl)) ?_; (with_reducible refine (signalbenchref06_Common.calls k a0_0 a0_1 a1_0 a1_1 t188 t189 t190 _ A6.out).mono ?_); rintro e w27 ⟨rfl, hb⟩; refine ⟨_, rfl, ?_⟩; have n0_ := Aside0.mk (blk_below (g := gb181) (o := .cells #[.int .i64 a0_0, .int .i64 a0_1] 25 (0, 0)) (by (iterate 2 (with_reducible repeat (first | refine blk_drewN ?_ _ | refine blk_drew ?_ | refine blk_alloc ?_ _)); refine blk_far ?_ NB181_187.out _); exact bg BK181.out) hb); have n1_ := Aside0.mk (blk_below (g := gb182) (o := .cells #[.int .i64 a1_0, .int .i64 a1_1] 25 (0, 0)) (by (iterate 2 (with_reducible repeat (first | refine blk_drewN ?_ _ | refine blk_drew ?_ | refine blk_alloc ?_ _)); refine blk_far ?_ NB182_187.out _); exact bg BK182.out) hb); have n2_ := Aside0.mk (blk_below (g := gb187) (o := .cells #[.int .i64 t184, .int .i64 t185] 25 (0, 0)) (by exact pt2 (bg BK187.out)) hb); have n3_ := Aside0.mk (below_step (bs HB.out) hb); clear BK181; clear BK182; clear BK187; clear HB; have BK181 := n0_; have BK182 := n1_; have BK187 := n2_; have HB := n3_; clear n0_ n1_ n2_ n3_; (try clear hb); (try clear hb2); (try clear hk); (try clear hi)) | ((with_reducible refine gate_dst (N := 7) rfl ?_); refine box_event ?hg (N := 7) ?hd (cs := #[.int .i64 0, .int .i64 0]) (t := 25) ?hr ?_; (case hd => rfl); (case hg => rfl); (case hr => first | (go_simp; done) | (go_simp; rfl)); intro gb191 hg w28 hbox hb; have n0_ := Aside0.mk (blk_below (bg BK181.out) hb); have n1_ := Aside0.mk (blk_below (bg BK182.out) hb); have n2_ := Aside0.mk (blk_below (bg BK187.out) hb); have n3_ := Aside0.mk (below_step (bs HB.out) hb); have n4_ := Aside0.mk (hbox); have n5_ := Aside0.mk ((by rw [hg]; exact (below_size (bs HB.out)) : w.heap.size ≤ gb191)); have n6_ := n5_; have n7_ := Aside0.mk ((by rw [hg]; exact Nat.ne_of_lt (blk_lt (bg BK181.out)) : gb181 ≠ gb191)); have n8_ := Aside0.mk ((by rw [hg]; exact Nat.ne_of_gt (blk_lt (bg BK181.out)) : gb191 ≠ gb181)); have n9_ := Aside0.mk ((by rw [hg]; exact Nat.ne_of_lt (blk_lt (bg BK182.out)) : gb182 ≠ gb191)); have n10_ := Aside0.mk ((by rw [hg]; exact Nat.ne_of_gt (blk_lt (bg BK182.out)) : gb191 ≠ gb182)); have n11_ := Aside0.mk ((by rw [hg]; exact Nat.ne_of_lt (blk_lt (bg BK187.out)) : gb187 ≠ gb191)); have n12_ := Aside0.mk ((by rw [hg]; exact Nat.ne_of_gt (blk_lt (bg BK187.out)) : gb191 ≠ gb187)); clear BK181; clear BK182; clear BK187; clear HB; have BK181 := n0_; have BK182 := n1_; have BK187 := n2_; have HB := n3_; have BK191 := n4_; have GW191 := n5_; have GE191 := n6_; have NB181_191 := n7_; have NB191_181 := n8_; have NB182_191 := n9_; have NB191_182 := n10_; have NB187_191 := n11_; have NB191_187 := n12_; clear n0_ n1_ n2_ n3_ n4_ n5_ n6_ n7_ n8_ n9_ n10_ n11_ n12_; clear hb hbox hg; have hnb29 := NB191_181.out; have hnc29 := NB181_191.out; have hnb30 := NB191_182.out; have hnc30 := NB182_191.out; have hnb31 := NB191_187.out; have hnc31 := NB187_191.out; obtain ⟨hcz32_0, hcz32_1⟩ := bc2 BK191.out; obtain ⟨hfz32_0, hfz32_1⟩ := bf2 BK191.out))
     have n0_ : Aside0 (((w28.setCell ⟨gb191, 0, none⟩ (.int .i64 t188)).setCell ⟨gb191, 1, none⟩ (.int .i64 t189)).heap[gb181]? = some (.cells #[.int .i64 a0_0, .int .i64 a0_1] 25 (0, 0))) := ⟨by (iterate 2 (with_reducible repeat (first | refine blk_drewN ?_ _ | refine blk_drew ?_ | refine blk_alloc ?_ _)); refine blk_far ?_ NB181_191.out _); exact bg BK181.out⟩
     have n1_ : Aside0 (((w28.setCell ⟨gb191, 0, none⟩ (.int .i64 t188)).setCell ⟨gb191, 1, none⟩ (.int .i64 t189)).heap[gb182]? = some (.cells #[.int .i64 a1_0, .int .i64 a1_1] 25 (0, 0))) := ⟨by (iterate 2 (with_reducible repeat (first | refine blk_drewN ?_ _ | refine blk_drew ?_ | refine blk_alloc ?_ _)); refine blk_far ?_ NB182_191.out _); exact bg BK182.out⟩
     have n2_ : Aside0 (((w28.setCell ⟨gb191, 0, none⟩ (.int .i64 t188)).setCell ⟨gb191, 1, none⟩ (.int .i64 t189)).heap[gb187]? = some (.cells #[.int .i64 t184, .int .i64 t185] 25 (0, 0))) := ⟨by (iterate 2 (with_reducible repeat (first | refine blk_drewN ?_ _ | refine blk_drew ?_ | refine blk_alloc ?_ _)); refine blk_far ?_ NB187_191.out _); exact bg BK187.out⟩
     have n3_ : Aside0 (((w28.setCell ⟨gb191, 0, none⟩ (.int .i64 t188)).setCell ⟨gb191, 1, none⟩ (.int .i64 t189)).heap[gb191]? = some (.cells #[.int .i64 t188, .int .i64 t189] 25 (0, 0))) := ⟨by exact pt2 (bg BK191.out)⟩
     have n4_ : Aside0 (Below w.heap.size w ((w28.setCell ⟨gb191, 0, none⟩ (.int .i64 t188)).setCell ⟨gb191, 1, none⟩ (.int .i64 t189))) := ⟨bs HB.out⟩
     (try clear BK181)
     (try clear BK182)
     (try clear BK187)
     (try clear BK191)
     (try clear HB)
     generalize ((w28.setCell ⟨gb191, 0, none⟩ (.int .i64 t188)).setCell ⟨gb191, 1, none⟩ (.int .i64 t189)) = w33 at n0_ n1_ n2_ n3_ n4_ ⊢
     have BK181 := n0_
     have BK182 := n1_
     have BK187 := n2_
     have BK191 := n3_
     have HB := n4_
     clear n0_ n1_ n2_ n3_ n4_
     have n0_ := Aside0.mk (blk_drew BK181.out)
     have n1_ := Aside0.mk (blk_drew BK182.out)
     have n2_ := Aside0.mk (blk_drew BK187.out)
     have n3_ := Aside0.mk (blk_drew BK191.out)
     have n4_ := Aside0.mk (below_drew1 HB.out)
     clear BK181
     clear BK182
     clear BK187
     clear BK191
     clear HB
     have BK181 := n0_
     have BK182 := n1_
     have BK187 := n2_
     have BK191 := n3_
     have HB := n4_
     clear n0_ n1_ n2_ n3_ n4_
     refine start_ (n := 25) (S := fun w' => w'.cell? ⟨gb181, 0, none⟩ = some (.int .i64 a0_0) ∧ w'.cell? ⟨gb181, 1, none⟩ = some (.int .i64 a0_1) ∧ w'.cell? ⟨gb182, 0, none⟩ = some (.int .i64 a1_0) ∧ w'.cell? ⟨gb182, 1, none⟩ = some (.int .i64 a1_1) ∧ w'.cell? ⟨gb187, 0, none⟩ = some (.int .i64 t184) ∧ w'.cell? ⟨gb187, 1, none⟩ = some (.int .i64 t185) ∧ w'.cell? ⟨gb191, 0, none⟩ = some (.int .i64 t188) ∧ w'.cell? ⟨gb191, 1, none⟩ = some (.int .i64 t189)) (ds := []) (bsq 0 25) (by kernel_rfl) rfl rfl ⟨(blk_cell BK181.out 0).trans rfl, (blk_cell BK181.out 1).trans rfl, (blk_cell BK182.out 0).trans rfl, (blk_cell BK182.out 1).trans rfl, (blk_cell BK187.out 0).trans rfl, (blk_cell BK187.out 1).trans rfl, (blk_cell BK191.out 0).trans rfl, (blk_cell BK191.out 1).trans rfl⟩ (fun hHeld => ?_); refine with_tabW signalbenchlaw06_SpanPairs.tab5 signalbenchlaw06_SpanPairs.bits5 (fun HT_ HW_ => ?_)
     generalize w33.drew = w34 at BK181 BK182 BK187 BK191 HB hHeld ⊢
     refine tk 0 23 (bsq 1 24) hHeld ?_ (he := by rintro w' ⟨s0, s1, s2, s3, s4, s5, s6, s7⟩; go_simp; with_reducible rfl)
     refine tk 2 25 (bls [1, 1, 1, 22]) hHeld ?_ (he := by rintro w' ⟨s0, s1, s2, s3, s4, s5, s6, s7⟩; go_simp; with_reducible rfl)
     refine one_ (i := 1) (N := some 24) (bsq 3 22) rfl rfl (one_of HT_.out (by kernel_rfl)) (by decide) (fun K hK => ?_)
     refine goes_ Try.func14 (by kernel_rfl) rfl #[.agg #[.int .i64 a0_0, .int .i64 a0_1]] (by rfl) rfl rfl (by (try simp only [List.map_toArray, List.map_cons, List.map_nil]); first | done | rfl | (simp only [List.length_drop, List.length_take]; rfl)) ?_
     with_reducible refine (span_Valid.calls a0_0 a0_1 t192 _ A7.out).mono ?_
     rintro e w35 ⟨rfl, hb⟩
     refine ⟨_, rfl, ?_⟩
     have n0_ := Aside0.mk (blk_below (bg BK181.out) hb)
     have n1_ := Aside0.mk (blk_below (bg BK182.out) hb)
     have n2_ := Aside0.mk (blk_below (bg BK187.out) hb)
     have n3_ := Aside0.mk (blk_below (bg BK191.out) hb)
     have n4_ := Aside0.mk (below_step (bs HB.out) hb)
     clear BK181
     clear BK182
     clear BK187
     clear BK191
     clear HB
     have BK181 := n0_
     have BK182 := n1_
     have BK187 := n2_
     have BK191 := n3_
     have HB := n4_
     clear n0_ n1_ n2_ n3_ n4_
     (try clear hb)
     (try clear hb2)
     (try clear hk)
     (try clear hi)
     refine hK.out _ _ ⟨(blk_cell BK181.out 0).trans rfl, (blk_cell BK181.out 1).trans rfl, (blk_cell BK182.out 0).trans rfl, (blk_cell BK182.out 1).trans rfl, (blk_cell BK187.out 0).trans rfl, (blk_cell BK187.out 1).trans rfl, (blk_cell BK191.out 0).trans rfl, (blk_cell BK191.out 1).trans rfl⟩ (fun hHeld => ?_)
     clear hK K
     refine norm_ (a' := ?_) ?_ ?_
     rotate_left
     ·
      show Act.put _ (some 24) _ = _
      simp only [Act.put, List.setIfInBounds_toArray, List.set_cons_zero, List.set_cons_succ, i64_w, i32_w]
      rfl
     refine one_ (i := 3) (N := some 26) (bsq 4 21) rfl rfl (one_of HT_.out (by kernel_rfl)) (by decide) (fun K hK => ?_)
     refine goes_ Try.func17 (by kernel_rfl) rfl #[.agg #[.int .i64 a0_0, .int .i64 a0_1]] (by rfl) rfl rfl (by (try simp only [List.map_toArray, List.map_cons, List.map_nil]); first | done | rfl | (simp only [List.length_drop, List.length_take]; rfl)) ?_
     with_reducible refine (signalbenchref06_Valid.calls a0_0 a0_1 t193 _ A8.out).mono ?_
     rintro e w36 ⟨rfl, hb⟩
     refine ⟨_, rfl, ?_⟩
     have n0_ := Aside0.mk (blk_below (bg BK181.out) hb)
     have n1_ := Aside0.mk (blk_below (bg BK182.out) hb)
     have n2_ := Aside0.mk (blk_below (bg BK187.out) hb)
     have n3_ := Aside0.mk (blk_below (bg BK191.out) hb)
     have n4_ := Aside0.mk (below_step (bs HB.out) hb)
     clear BK181
     clear BK182
     clear BK187
     clear BK191
     clear HB
     have BK181 := n0_
     have BK182 := n1_
     have BK187 := n2_
     have BK191 := n3_
     have HB := n4_
     clear n0_ n1_ n2_ n3_ n4_
     (try clear hb)
     (try clear hb2)
     (try clear hk)
     (try clear hi)
     refine hK.out _ _ ⟨(blk_cell BK181.out 0).trans rfl, (blk_cell BK181.out 1).trans rfl, (blk_cell BK182.out 0).trans rfl, (blk_cell BK182.out 1).trans rfl, (blk_cell BK187.out 0).trans rfl, (blk_cell BK187.out 1).trans rfl, (blk_cell BK191.out 0).trans rfl, (blk_cell BK191.out 1).trans rfl⟩ (fun hHeld => ?_)
     clear hK K
     refine norm_ (a' := ?_) ?_ ?_
     rotate_left
     ·
      show Act.put _ (some 26) _ = _
      simp only [Act.put, List.setIfInBounds_toArray, List.set_cons_zero, List.set_cons_succ, i64_w, i32_w]
      rfl
     refine pu 4 27 (bsq 5 20) ?_
     refine pu 5 28 (bsq 6 19) ?_
     refine tk 6 29 (bsq 7 18) hHeld ?_ (he := by rintro w' ⟨s0, s1, s2, s3, s4, s5, s6, s7⟩; go_simp; with_reducible rfl)
     refine tk 7 30 (bsq 8 17) hHeld ?_ (he := by rintro w' ⟨s0, s1, s2, s3, s4, s5, s6, s7⟩; go_simp; with_reducible rfl)
     refine tk 9 32 (bls [8, 1, 1, 15]) hHeld ?_ (he := by rintro w' ⟨s0, s1, s2, s3, s4, s5, s6, s7⟩; go_simp; with_reducible rfl)
     refine tk 10 33 (bls [8, 1, 2, 14]) hHeld ?_ (he := by rintro w' ⟨s0, s1, s2, s3, s4, s5, s6, s7⟩; go_simp; with_reducible rfl)
     refine one_ (i := 8) (N := some 31) (bsq 11 14) rfl rfl (one_of HT_.out (by kernel_rfl)) (by decide) (fun K hK => ?_)
     refine goes_ Try.func18 (by kernel_rfl) rfl #[.agg #[.int .i64 a0_0, .int .i64 a0_1], .agg #[.int .i64 a1_0, .int .i64 a1_1]] (by rfl) rfl rfl (by (try simp only [List.map_toArray, List.map_cons, List.map_nil]); first | done | rfl | (simp only [List.length_drop, List.length_take]; rfl)) ?_
     with_reducible refine (span_Meets.calls a0_0 a0_1 a1_0 a1_1 t194 _ A10.out).mono ?_
     rintro e w37 ⟨rfl, hb⟩
     refine ⟨_, rfl, ?_⟩
     have n0_ := Aside0.mk (blk_below (bg BK181.out) hb)
     have n1_ := Aside0.mk (blk_below (bg BK182.out) hb)
     have n2_ := Aside0.mk (blk_below (bg BK187.out) hb)
     have n3_ := Aside0.mk (blk_below (bg BK191.out) hb)
     have n4_ := Aside0.mk (below_step (bs HB.out) hb)
     clear BK181
     clear BK182
     clear BK187
     clear BK191
     clear HB
     have BK181 := n0_
     have BK182 := n1_
     have BK187 := n2_
     have BK191 := n3_
     have HB := n4_
     clear n0_ n1_ n2_ n3_ n4_
     (try clear hb)
     (try clear hb2)
     (try clear hk)
     (try clear hi)
     refine hK.out _ _ ⟨(blk_cell BK181.out 0).trans rfl, (blk_cell BK181.out 1).trans rfl, (blk_cell BK182.out 0).trans rfl, (blk_cell BK182.out 1).trans rfl, (blk_cell BK187.out 0).trans rfl, (blk_cell BK187.out 1).trans rfl, (blk_cell BK191.out 0).trans rfl, (blk_cell BK191.out 1).trans rfl⟩ (fun hHeld => ?_)
     clear hK K
     refine norm_ (a' := ?_) ?_ ?_
     rotate_left
     ·
      show Act.put _ (some 31) _ = _
      simp only [Act.put, List.setIfInBounds_toArray, List.set_cons_zero, List.set_cons_succ, i64_w, i32_w]
      rfl
     refine one_ (i := 11) (N := some 34) (bsq 12 13) rfl rfl (one_of HT_.out (by kernel_rfl)) (by decide) (fun K hK => ?_)
     refine goes_ Try.func19 (by kernel_rfl) rfl #[.agg #[.int .i64 a0_0, .int .i64 a0_1], .agg #[.int .i64 a1_0, .int .i64 a1_1]] (by rfl) rfl rfl (by (try simp only [List.map_toArray, List.map_cons, List.map_nil]); first | done | rfl | (simp only [List.length_drop, List.length_take]; rfl)) ?_
     with_reducible refine (signalbenchref06_Meets.calls k a0_0 a0_1 a1_0 a1_1 t195 _ A11.out).mono ?_
     rintro e w38 ⟨rfl, hb⟩
     refine ⟨_, rfl, ?_⟩
     have n0_ := Aside0.mk (blk_below (bg BK181.out) hb)
     have n1_ := Aside0.mk (blk_below (bg BK182.out) hb)
     have n2_ := Aside0.mk (blk_below (bg BK187.out) hb)
     have n3_ := Aside0.mk (blk_below (bg BK191.out) hb)
     have n4_ := Aside0.mk (below_step (bs HB.out) hb)
     clear BK181
     clear BK182
     clear BK187
     clear BK191
     clear HB
     have BK181 := n0_
     have BK182 := n1_
     have BK187 := n2_
     have BK191 := n3_
     have HB := n4_
     clear n0_ n1_ n2_ n3_ n4_
     (try clear hb)
     (try clear hb2)
     (try clear hk)
     (try clear hi)
     refine hK.out _ _ ⟨(blk_cell BK181.out 0).trans rfl, (blk_cell BK181.out 1).trans rfl, (blk_cell BK182.out 0).trans rfl, (blk_cell BK182.out 1).trans rfl, (blk_cell BK187.out 0).trans rfl, (blk_cell BK187.out 1).trans rfl, (blk_cell BK191.out 0).trans rfl, (blk_cell BK191.out 1).trans rfl⟩ (fun hHeld => ?_)
     clear hK K
     refine norm_ (a' := ?_) ?_ ?_
     rotate_left
     ·
      show Act.put _ (some 34) _ = _
      simp only [Act.put, List.setIfInBounds_toArray, List.set_cons_zero, List.set_cons_succ, i64_w, i32_w]
      rfl
     refine pu 12 35 (bsq 13 12) ?_
     refine pu 13 36 (bsq 14 11) ?_
     refine pu 14 37 (bsq 15 10) ?_
     refine tk 15 38 (bsq 16 9) hHeld ?_ (he := by rintro w' ⟨s0, s1, s2, s3, s4, s5, s6, s7⟩; go_simp; with_reducible rfl)
     refine tk 16 39 (bsq 17 8) hHeld ?_ (he := by rintro w' ⟨s0, s1, s2, s3, s4, s5, s6, s7⟩; go_simp; with_reducible rfl)
     refine pu 17 40 (bsq 18 7) ?_
     refine pu 18 41 (bsq 19 6) ?_
     refine pu 19 42 (bsq 20 5) ?_
     refine pu 20 43 (bsq 21 4) ?_
     refine pu 21 44 (bsq 22 3) ?_
     refine pu 22 45 (bsq 23 2) ?_
     refine pu 23 46 (bsq 24 1) ?_
     refine pu 24 4 (bsq 25 0) ?_
     refine done_ (done_of HT_.out (by kernel_rfl)) ?_
     try go_wp2
     go_ret
     exact ⟨by first | rfl | (simp [errW_none, errW_some] <;> rfl) | (simp [*, errW_none, errW_some] <;> rfl), bs HB.out⟩
    ·
     rw [if_neg c13] at H
     have c13b0 : (t184 == t188 && (t185 == t189)) = false := by simpa using c13
     (try (have c13b1 : decide (t184 = t188 && (t185 == t189)) = false := by simpa using c13))
     (try (have c13b2 : (t184 == t188 && (t185 == t189)) = false := by simpa using c13))
     (try (have c13b3 : ¬ (t184 = t188 && (t185 == t189)) := by simpa using c13))
     clear c13
     obtain rfl := Option.some.inj H
     go_enter Try.func5, Try.ntmps5
     try go_wp2_with (first | ((with_reducible refine gate_dst (N := 2) rfl ?_); refine box_event ?hg (N := 2) ?hd (cs := #[.int .i64 a0_0, .int .i64 a0_1]) (t := 25) ?hr ?_; (case hd => rfl); (case hg => rfl); (case hr => first | (go_simp; done) | (go_simp; rfl)); intro gb181 hg w39 hbox hb; have n0_ := Aside0.mk (below_step (bs HB.out) hb); have n1_ := Aside0.mk (hbox); have n2_ := Aside0.mk ((by rw [hg]; exact (below_size (bs HB.out)) : w.heap.size ≤ gb181)); have n3_ := n2_; clear HB; have HB := n0_; have BK181 := n1_; have GW181 := n2_; have GE181 := n3_; clear n0_ n1_ n2_ n3_; clear hb hbox hg) | ((with_reducible refine gate_dst (N := 3) rfl ?_); refine box_event ?hg (N := 3) ?hd (cs := #[.int .i64 a1_0, .int .i64 a1_1]) (t := 25) ?hr ?_; (case hd => rfl); (case hg => rfl); (case hr => first | (go_simp; done) | (go_simp; rfl)); intro gb182 hg w40 hbox hb; have n0_ := Aside0.mk (blk_below (bg BK181.out) hb); have n1_ := Aside0.mk (below_step (bs HB.out) hb); have n2_ := Aside0.mk (hbox); have n3_ := Aside0.mk ((by rw [hg]; exact (below_size (bs HB.out)) : w.heap.size ≤ gb182)); have n4_ := n3_; have n5_ := Aside0.mk ((by rw [hg]; exact Nat.ne_of_lt (blk_lt (bg BK181.out)) : gb181 ≠ gb182)); have n6_ := Aside0.mk ((by rw [hg]; exact Nat.ne_of_gt (blk_lt (bg BK181.out)) : gb182 ≠ gb181)); clear BK181; clear HB; have BK181 := n0_; have HB := n1_; have BK182 := n2_; have GW182 := n3_; have GE182 := n4_; have NB181_182 := n5_; have NB182_181 := n6_; clear n0_ n1_ n2_ n3_ n4_ n5_ n6_; clear hb hbox hg) | ((with_reducible refine gate_callee (f := 9) rfl ?_); refine goesL_ (some 9) rfl rfl Try.func9 (by kernel_rfl) rfl #[] rfl (by (try simp only [List.map_toArray, List.map_cons, List.map_nil]); first | done | rfl | (simp only [List.length_drop, List.length_take]; rfl)) ?_; (with_reducible refine (signalbenchlaw06_lives.calls  true _ A3.out).mono ?_); rintro e w41 ⟨rfl, hb⟩; refine ⟨_, rfl, ?_⟩; have n0_ := Aside0.mk (blk_below (bg BK181.out) hb); have n1_ := Aside0.mk (blk_below (bg BK182.out) hb); have n2_ := Aside0.mk (below_step (bs HB.out) hb); clear BK181; clear BK182; clear HB; have BK181 := n0_; have BK182 := n1_; have HB := n2_; clear n0_ n1_ n2_; (try clear hb); (try clear hb2); (try clear hk); (try clear hi); have hnb42 := NB181_182.out; have hnc42 := NB182_181.out; obtain ⟨hcz43_0, hcz43_1⟩ := bc2 BK181.out; obtain ⟨hfz43_0, hfz43_1⟩ := bf2 BK181.out; obtain ⟨hcz44_0, hcz44_1⟩ := bc2 BK182.out; obtain ⟨hfz44_0, hfz44_1⟩ := bf2 BK182.out) | ((with_reducible refine gate_callee (f := 15) rfl ?_); refine goesL_ (some 14) rfl rfl Try.func15 (by kernel_rfl) rfl #[.agg #[.int .i64 a0_0, .int .i64 a0_1], .agg #[.int .i64 a1_0, .int .i64 a1_1]] rfl (by (try simp only [List.map_toArray, List.map_cons, List.map_nil]); first | done | rfl | (simp only [List.length_drop, List.length_take]; rfl)) ?_; (with_reducible refine (span_Common.calls a0_0 a0_1 a1_0 a1_1 t184 t185 t186 _ A5.out).mono ?_); rintro e w45 ⟨rfl, hb⟩; refine ⟨_, rfl, ?_⟩; have n0_ := Aside0.mk (blk_below (bg BK181.out) hb); have n1_ := Aside0.mk (blk_below (bg BK182.out) hb); have n2_ := Aside0.mk (below_step (bs HB.out) hb); clear BK181; clear BK182; clear HB; have BK181 := n0_; have BK182 := n1_; have HB := n2_; clear n0_ n1_ n2_; (try clear hb); (try clear hb2); (try clear hk); (try clear hi)) | ((with_reducible refine gate_dst (N := 5) rfl ?_); refine box_event ?hg (N := 5) ?hd (cs := #[.int .i64 0, .int .i64 0]) (t := 25) ?hr ?_; (case hd => rfl); (case hg => rfl); (case hr => first | (go_simp; done) | (go_simp; rfl)); intro gb187 hg w46 hbox hb; have n0_ := Aside0.mk (blk_below (bg BK181.out) hb); have n1_ := Aside0.mk (blk_below (bg BK182.out) hb); have n2_ := Aside0.mk (below_step (bs HB.out) hb); have n3_ := Aside0.mk (hbox); have n4_ := Aside0.mk ((by rw [hg]; exact (below_size (bs HB.out)) : w.heap.size ≤ gb187)); have n5_ := n4_; have n6_ := Aside0.mk ((by rw [hg]; exact Nat.ne_of_lt (blk_lt (bg BK181.out)) : gb181 ≠ gb187)); have n7_ := Aside0.mk ((by rw [hg]; exact Nat.ne_of_gt (blk_lt (bg BK181.out)) : gb187 ≠ gb181)); have n8_ := Aside0.mk ((by rw [hg]; exact Nat.ne_of_lt (blk_lt (bg BK182.out)) : gb182 ≠ gb187)); have n9_ := Aside0.mk ((by rw [hg]; exact Nat.ne_of_gt (blk_lt (bg BK182.out)) : gb187 ≠ gb182)); clear BK181; clear BK182; clear HB; have BK181 := n0_; have BK182 := n1_; have HB := n2_; have BK187 := n3_; have GW187 := n4_; have GE187 := n5_; have NB181_187 := n6_; have NB187_181 := n7_; have NB182_187 := n8_; have NB187_182 := n9_; clear n0_ n1_ n2_ n3_ n4_ n5_ n6_ n7_ n8_ n9_; clear hb hbox hg; have hnb47 := NB187_181.out; have hnc47 := NB181_187.out; have hnb48 := NB187_182.out; have hnc48 := NB182_187.out; obtain ⟨hcz49_0, hcz49_1⟩ := bc2 BK187.out; obtain ⟨hfz49_0, hfz49_1⟩ := bf2 BK187.out; obtain ⟨hcz50_0, hcz50_1⟩ := bc2 BK181.out; obtain ⟨hfz50_0, hfz50_1⟩ := bf2 BK181.out; obtain ⟨hcz51_0, hcz51_1⟩ := bc2 BK182.out; obtain ⟨hfz51_0, hfz51_1⟩ := bf2 BK182.out) | ((with_reducible refine gate_callee (f := 16) rfl ?_); refine goesL_ (some 20) rfl rfl Try.func16 (by kernel_rfl) rfl #[.agg #[.int .i64 a0_0, .int .i64 a0_1], .agg #[.int .i64 a1_0, .int .i64 a1_1]] rfl (by (try simp only [List.map_toArray, List.map_cons, List.map_nil]); first | done | rfl | (simp only [List.length_drop, List.length_take]; rfl)) ?_; (with_reducible refine (signalbenchref06_Common.calls k a0_0 a0_1 a1_0 a1_1 t188 t189 t190 _ A6.out).mono ?_); rintro e w52 ⟨rfl, hb⟩; refine ⟨_, rfl, ?_⟩; have n0_ := Aside0.mk (blk_below (g := gb181) (o := .cells #[.int .i64 a0_0, .int .i64 a0_1] 25 (0, 0)) (by (iterate 2 (with_reducible repeat (first | refine blk_drewN ?_ _ | refine blk_drew ?_ | refine blk_alloc ?_ _)); refine blk_far ?_ NB181_187.out _); exact bg BK181.out) hb); have n1_ := Aside0.mk (blk_below (g := gb182) (o := .cells #[.int .i64 a1_0, .int .i64 a1_1] 25 (0, 0)) (by (iterate 2 (with_reducible repeat (first | refine blk_drewN ?_ _ | refine blk_drew ?_ | refine blk_alloc ?_ _)); refine blk_far ?_ NB182_187.out _); exact bg BK182.out) hb); have n2_ := Aside0.mk (blk_below (g := gb187) (o := .cells #[.int .i64 t184, .int .i64 t185] 25 (0, 0)) (by exact pt2 (bg BK187.out)) hb); have n3_ := Aside0.mk (below_step (bs HB.out) hb); clear BK181; clear BK182; clear BK187; clear HB; have BK181 := n0_; have BK182 := n1_; have BK187 := n2_; have HB := n3_; clear n0_ n1_ n2_ n3_; (try clear hb); (try clear hb2); (try clear hk); (try clear hi)) | ((with_reducible refine gate_dst (N := 7) rfl ?_); refine box_event ?hg (N := 7) ?hd (cs := #[.int .i64 0, .int .i64 0]) (t := 25) ?hr ?_; (case hd => rfl); (case hg => rfl); (case hr => first | (go_simp; done) | (go_simp; rfl)); intro gb191 hg w53 hbox hb; have n0_ := Aside0.mk (blk_below (bg BK181.out) hb); have n1_ := Aside0.mk (blk_below (bg BK182.out) hb); have n2_ := Aside0.mk (blk_below (bg BK187.out) hb); have n3_ := Aside0.mk (below_step (bs HB.out) hb); have n4_ := Aside0.mk (hbox); have n5_ := Aside0.mk ((by rw [hg]; exact (below_size (bs HB.out)) : w.heap.size ≤ gb191)); have n6_ := n5_; have n7_ := Aside0.mk ((by rw [hg]; exact Nat.ne_of_lt (blk_lt (bg BK181.out)) : gb181 ≠ gb191)); have n8_ := Aside0.mk ((by rw [hg]; exact Nat.ne_of_gt (blk_lt (bg BK181.out)) : gb191 ≠ gb181)); have n9_ := Aside0.mk ((by rw [hg]; exact Nat.ne_of_lt (blk_lt (bg BK182.out)) : gb182 ≠ gb191)); have n10_ := Aside0.mk ((by rw [hg]; exact Nat.ne_of_gt (blk_lt (bg BK182.out)) : gb191 ≠ gb182)); have n11_ := Aside0.mk ((by rw [hg]; exact Nat.ne_of_lt (blk_lt (bg BK187.out)) : gb187 ≠ gb191)); have n12_ := Aside0.mk ((by rw [hg]; exact Nat.ne_of_gt (blk_lt (bg BK187.out)) : gb191 ≠ gb187)); clear BK181; clear BK182; clear BK187; clear HB; have BK181 := n0_; have BK182 := n1_; have BK187 := n2_; have HB := n3_; have BK191 := n4_; have GW191 := n5_; have GE191 := n6_; have NB181_191 := n7_; have NB191_181 := n8_; have NB182_191 := n9_; have NB191_182 := n10_; have NB187_191 := n11_; have NB191_187 := n12_; clear n0_ n1_ n2_ n3_ n4_ n5_ n6_ n7_ n8_ n9_ n10_ n11_ n12_; clear hb hbox hg; have hnb54 := NB191_181.out; have hnc54 := NB181_191.out; have hnb55 := NB191_182.out; have hnc55 := NB182_191.out; have hnb56 := NB191_187.out; have hnc56 := NB187_191.out; obtain ⟨hcz57_0, hcz57_1⟩ := bc2 BK191.out; obtain ⟨hfz57_0, hfz57_1⟩ := bf2 BK191.out))
     have n0_ : Aside0 (((w53.setCell ⟨gb191, 0, none⟩ (.int .i64 t188)).setCell ⟨gb191, 1, none⟩ (.int .i64 t189)).heap[gb181]? = some (.cells #[.int .i64 a0_0, .int .i64 a0_1] 25 (0, 0))) := ⟨by (iterate 2 (with_reducible repeat (first | refine blk_drewN ?_ _ | refine blk_drew ?_ | refine blk_alloc ?_ _)); refine blk_far ?_ NB181_191.out _); exact bg BK181.out⟩
     have n1_ : Aside0 (((w53.setCell ⟨gb191, 0, none⟩ (.int .i64 t188)).setCell ⟨gb191, 1, none⟩ (.int .i64 t189)).heap[gb182]? = some (.cells #[.int .i64 a1_0, .int .i64 a1_1] 25 (0, 0))) := ⟨by (iterate 2 (with_reducible repeat (first | refine blk_drewN ?_ _ | refine blk_drew ?_ | refine blk_alloc ?_ _)); refine blk_far ?_ NB182_191.out _); exact bg BK182.out⟩
     have n2_ : Aside0 (((w53.setCell ⟨gb191, 0, none⟩ (.int .i64 t188)).setCell ⟨gb191, 1, none⟩ (.int .i64 t189)).heap[gb187]? = some (.cells #[.int .i64 t184, .int .i64 t185] 25 (0, 0))) := ⟨by (iterate 2 (with_reducible repeat (first | refine blk_drewN ?_ _ | refine blk_drew ?_ | refine blk_alloc ?_ _)); refine blk_far ?_ NB187_191.out _); exact bg BK187.out⟩
     have n3_ : Aside0 (((w53.setCell ⟨gb191, 0, none⟩ (.int .i64 t188)).setCell ⟨gb191, 1, none⟩ (.int .i64 t189)).heap[gb191]? = some (.cells #[.int .i64 t188, .int .i64 t189] 25 (0, 0))) := ⟨by exact pt2 (bg BK191.out)⟩
     have n4_ : Aside0 (Below w.heap.size w ((w53.setCell ⟨gb191, 0, none⟩ (.int .i64 t188)).setCell ⟨gb191, 1, none⟩ (.int .i64 t189))) := ⟨bs HB.out⟩
     (try clear BK181)
     (try clear BK182)
     (try clear BK187)
     (try clear BK191)
     (try clear HB)
     generalize ((w53.setCell ⟨gb191, 0, none⟩ (.int .i64 t188)).setCell ⟨gb191, 1, none⟩ (.int .i64 t189)) = w58 at n0_ n1_ n2_ n3_ n4_ ⊢
     have BK181 := n0_
     have BK182 := n1_
     have BK187 := n2_
     have BK191 := n3_
     have HB := n4_
     clear n0_ n1_ n2_ n3_ n4_
     have n0_ := Aside0.mk (blk_drew BK181.out)
     have n1_ := Aside0.mk (blk_drew BK182.out)
     have n2_ := Aside0.mk (blk_drew BK187.out)
     have n3_ := Aside0.mk (blk_drew BK191.out)
     have n4_ := Aside0.mk (below_drew1 HB.out)
     clear BK181
     clear BK182
     clear BK187
     clear BK191
     clear HB
     have BK181 := n0_
     have BK182 := n1_
     have BK187 := n2_
     have BK191 := n3_
     have HB := n4_
     clear n0_ n1_ n2_ n3_ n4_
     refine start_ (n := 25) (S := fun w' => w'.cell? ⟨gb181, 0, none⟩ = some (.int .i64 a0_0) ∧ w'.cell? ⟨gb181, 1, none⟩ = some (.int .i64 a0_1) ∧ w'.cell? ⟨gb182, 0, none⟩ = some (.int .i64 a1_0) ∧ w'.cell? ⟨gb182, 1, none⟩ = some (.int .i64 a1_1) ∧ w'.cell? ⟨gb187, 0, none⟩ = some (.int .i64 t184) ∧ w'.cell? ⟨gb187, 1, none⟩ = some (.int .i64 t185) ∧ w'.cell? ⟨gb191, 0, none⟩ = some (.int .i64 t188) ∧ w'.cell? ⟨gb191, 1, none⟩ = some (.int .i64 t189)) (ds := []) (bsq 0 25) (by kernel_rfl) rfl rfl ⟨(blk_cell BK181.out 0).trans rfl, (blk_cell BK181.out 1).trans rfl, (blk_cell BK182.out 0).trans rfl, (blk_cell BK182.out 1).trans rfl, (blk_cell BK187.out 0).trans rfl, (blk_cell BK187.out 1).trans rfl, (blk_cell BK191.out 0).trans rfl, (blk_cell BK191.out 1).trans rfl⟩ (fun hHeld => ?_); refine with_tabW signalbenchlaw06_SpanPairs.tab5 signalbenchlaw06_SpanPairs.bits5 (fun HT_ HW_ => ?_)
     generalize w58.drew = w59 at BK181 BK182 BK187 BK191 HB hHeld ⊢
     refine tk 0 23 (bsq 1 24) hHeld ?_ (he := by rintro w' ⟨s0, s1, s2, s3, s4, s5, s6, s7⟩; go_simp; with_reducible rfl)
     refine tk 2 25 (bls [1, 1, 1, 22]) hHeld ?_ (he := by rintro w' ⟨s0, s1, s2, s3, s4, s5, s6, s7⟩; go_simp; with_reducible rfl)
     refine one_ (i := 1) (N := some 24) (bsq 3 22) rfl rfl (one_of HT_.out (by kernel_rfl)) (by decide) (fun K hK => ?_)
     refine goes_ Try.func14 (by kernel_rfl) rfl #[.agg #[.int .i64 a0_0, .int .i64 a0_1]] (by rfl) rfl rfl (by (try simp only [List.map_toArray, List.map_cons, List.map_nil]); first | done | rfl | (simp only [List.length_drop, List.length_take]; rfl)) ?_
     with_reducible refine (span_Valid.calls a0_0 a0_1 t192 _ A7.out).mono ?_
     rintro e w60 ⟨rfl, hb⟩
     refine ⟨_, rfl, ?_⟩
     have n0_ := Aside0.mk (blk_below (bg BK181.out) hb)
     have n1_ := Aside0.mk (blk_below (bg BK182.out) hb)
     have n2_ := Aside0.mk (blk_below (bg BK187.out) hb)
     have n3_ := Aside0.mk (blk_below (bg BK191.out) hb)
     have n4_ := Aside0.mk (below_step (bs HB.out) hb)
     clear BK181
     clear BK182
     clear BK187
     clear BK191
     clear HB
     have BK181 := n0_
     have BK182 := n1_
     have BK187 := n2_
     have BK191 := n3_
     have HB := n4_
     clear n0_ n1_ n2_ n3_ n4_
     (try clear hb)
     (try clear hb2)
     (try clear hk)
     (try clear hi)
     refine hK.out _ _ ⟨(blk_cell BK181.out 0).trans rfl, (blk_cell BK181.out 1).trans rfl, (blk_cell BK182.out 0).trans rfl, (blk_cell BK182.out 1).trans rfl, (blk_cell BK187.out 0).trans rfl, (blk_cell BK187.out 1).trans rfl, (blk_cell BK191.out 0).trans rfl, (blk_cell BK191.out 1).trans rfl⟩ (fun hHeld => ?_)
     clear hK K
     refine norm_ (a' := ?_) ?_ ?_
     rotate_left
     ·
      show Act.put _ (some 24) _ = _
      simp only [Act.put, List.setIfInBounds_toArray, List.set_cons_zero, List.set_cons_succ, i64_w, i32_w]
      rfl
     refine one_ (i := 3) (N := some 26) (bsq 4 21) rfl rfl (one_of HT_.out (by kernel_rfl)) (by decide) (fun K hK => ?_)
     refine goes_ Try.func17 (by kernel_rfl) rfl #[.agg #[.int .i64 a0_0, .int .i64 a0_1]] (by rfl) rfl rfl (by (try simp only [List.map_toArray, List.map_cons, List.map_nil]); first | done | rfl | (simp only [List.length_drop, List.length_take]; rfl)) ?_
     with_reducible refine (signalbenchref06_Valid.calls a0_0 a0_1 t193 _ A8.out).mono ?_
     rintro e w61 ⟨rfl, hb⟩
     refine ⟨_, rfl, ?_⟩
     have n0_ := Aside0.mk (blk_below (bg BK181.out) hb)
     have n1_ := Aside0.mk (blk_below (bg BK182.out) hb)
     have n2_ := Aside0.mk (blk_below (bg BK187.out) hb)
     have n3_ := Aside0.mk (blk_below (bg BK191.out) hb)
     have n4_ := Aside0.mk (below_step (bs HB.out) hb)
     clear BK181
     clear BK182
     clear BK187
     clear BK191
     clear HB
     have BK181 := n0_
     have BK182 := n1_
     have BK187 := n2_
     have BK191 := n3_
     have HB := n4_
     clear n0_ n1_ n2_ n3_ n4_
     (try clear hb)
     (try clear hb2)
     (try clear hk)
     (try clear hi)
     refine hK.out _ _ ⟨(blk_cell BK181.out 0).trans rfl, (blk_cell BK181.out 1).trans rfl, (blk_cell BK182.out 0).trans rfl, (blk_cell BK182.out 1).trans rfl, (blk_cell BK187.out 0).trans rfl, (blk_cell BK187.out 1).trans rfl, (blk_cell BK191.out 0).trans rfl, (blk_cell BK191.out 1).trans rfl⟩ (fun hHeld => ?_)
     clear hK K
     refine norm_ (a' := ?_) ?_ ?_
     rotate_left
     ·
      show Act.put _ (some 26) _ = _
      simp only [Act.put, List.setIfInBounds_toArray, List.set_cons_zero, List.set_cons_succ, i64_w, i32_w]
      rfl
     refine pu 4 27 (bsq 5 20) ?_
     refine pu 5 28 (bsq 6 19) ?_
     refine tk 6 29 (bsq 7 18) hHeld ?_ (he := by rintro w' ⟨s0, s1, s2, s3, s4, s5, s6, s7⟩; go_simp; with_reducible rfl)
     refine tk 7 30 (bsq 8 17) hHeld ?_ (he := by rintro w' ⟨s0, s1, s2, s3, s4, s5, s6, s7⟩; go_simp; with_reducible rfl)
     refine tk 9 32 (bls [8, 1, 1, 15]) hHeld ?_ (he := by rintro w' ⟨s0, s1, s2, s3, s4, s5, s6, s7⟩; go_simp; with_reducible rfl)
     refine tk 10 33 (bls [8, 1, 2, 14]) hHeld ?_ (he := by rintro w' ⟨s0, s1, s2, s3, s4, s5, s6, s7⟩; go_simp; with_reducible rfl)
     refine one_ (i := 8) (N := some 31) (bsq 11 14) rfl rfl (one_of HT_.out (by kernel_rfl)) (by decide) (fun K hK => ?_)
     refine goes_ Try.func18 (by kernel_rfl) rfl #[.agg #[.int .i64 a0_0, .int .i64 a0_1], .agg #[.int .i64 a1_0, .int .i64 a1_1]] (by rfl) rfl rfl (by (try simp only [List.map_toArray, List.map_cons, List.map_nil]); first | done | rfl | (simp only [List.length_drop, List.length_take]; rfl)) ?_
     with_reducible refine (span_Meets.calls a0_0 a0_1 a1_0 a1_1 t194 _ A10.out).mono ?_
     rintro e w62 ⟨rfl, hb⟩
     refine ⟨_, rfl, ?_⟩
     have n0_ := Aside0.mk (blk_below (bg BK181.out) hb)
     have n1_ := Aside0.mk (blk_below (bg BK182.out) hb)
     have n2_ := Aside0.mk (blk_below (bg BK187.out) hb)
     have n3_ := Aside0.mk (blk_below (bg BK191.out) hb)
     have n4_ := Aside0.mk (below_step (bs HB.out) hb)
     clear BK181
     clear BK182
     clear BK187
     clear BK191
     clear HB
     have BK181 := n0_
     have BK182 := n1_
     have BK187 := n2_
     have BK191 := n3_
     have HB := n4_
     clear n0_ n1_ n2_ n3_ n4_
     (try clear hb)
     (try clear hb2)
     (try clear hk)
     (try clear hi)
     refine hK.out _ _ ⟨(blk_cell BK181.out 0).trans rfl, (blk_cell BK181.out 1).trans rfl, (blk_cell BK182.out 0).trans rfl, (blk_cell BK182.out 1).trans rfl, (blk_cell BK187.out 0).trans rfl, (blk_cell BK187.out 1).trans rfl, (blk_cell BK191.out 0).trans rfl, (blk_cell BK191.out 1).trans rfl⟩ (fun hHeld => ?_)
     clear hK K
     refine norm_ (a' := ?_) ?_ ?_
     rotate_left
     ·
      show Act.put _ (some 31) _ = _
      simp only [Act.put, List.setIfInBounds_toArray, List.set_cons_zero, List.set_cons_succ, i64_w, i32_w]
      rfl
     refine one_ (i := 11) (N := some 34) (bsq 12 13) rfl rfl (one_of HT_.out (by kernel_rfl)) (by decide) (fun K hK => ?_)
     refine goes_ Try.func19 (by kernel_rfl) rfl #[.agg #[.int .i64 a0_0, .int .i64 a0_1], .agg #[.int .i64 a1_0, .int .i64 a1_1]] (by rfl) rfl rfl (by (try simp only [List.map_toArray, List.map_cons, List.map_nil]); first | done | rfl | (simp only [List.length_drop, List.length_take]; rfl)) ?_
     with_reducible refine (signalbenchref06_Meets.calls k a0_0 a0_1 a1_0 a1_1 t195 _ A11.out).mono ?_
     rintro e w63 ⟨rfl, hb⟩
     refine ⟨_, rfl, ?_⟩
     have n0_ := Aside0.mk (blk_below (bg BK181.out) hb)
     have n1_ := Aside0.mk (blk_below (bg BK182.out) hb)
     have n2_ := Aside0.mk (blk_below (bg BK187.out) hb)
     have n3_ := Aside0.mk (blk_below (bg BK191.out) hb)
     have n4_ := Aside0.mk (below_step (bs HB.out) hb)
     clear BK181
     clear BK182
     clear BK187
     clear BK191
     clear HB
     have BK181 := n0_
     have BK182 := n1_
     have BK187 := n2_
     have BK191 := n3_
     have HB := n4_
     clear n0_ n1_ n2_ n3_ n4_
     (try clear hb)
     (try clear hb2)
     (try clear hk)
     (try clear hi)
     refine hK.out _ _ ⟨(blk_cell BK181.out 0).trans rfl, (blk_cell BK181.out 1).trans rfl, (blk_cell BK182.out 0).trans rfl, (blk_cell BK182.out 1).trans rfl, (blk_cell BK187.out 0).trans rfl, (blk_cell BK187.out 1).trans rfl, (blk_cell BK191.out 0).trans rfl, (blk_cell BK191.out 1).trans rfl⟩ (fun hHeld => ?_)
     clear hK K
     refine norm_ (a' := ?_) ?_ ?_
     rotate_left
     ·
      show Act.put _ (some 34) _ = _
      simp only [Act.put, List.setIfInBounds_toArray, List.set_cons_zero, List.set_cons_succ, i64_w, i32_w]
      rfl
     refine pu 12 35 (bsq 13 12) ?_
     refine pu 13 36 (bsq 14 11) ?_
     refine pu 14 37 (bsq 15 10) ?_
     refine tk 15 38 (bsq 16 9) hHeld ?_ (he := by rintro w' ⟨s0, s1, s2, s3, s4, s5, s6, s7⟩; go_simp; with_reducible rfl)
     refine tk 16 39 (bsq 17 8) hHeld ?_ (he := by rintro w' ⟨s0, s1, s2, s3, s4, s5, s6, s7⟩; go_simp; with_reducible rfl)
     refine pu 17 40 (bsq 18 7) ?_
     refine pu 18 41 (bsq 19 6) ?_
     refine pu 19 42 (bsq 20 5) ?_
     refine un 20 43 (bsq 21 4) ?_
     refine un 21 44 (bsq 22 3) ?_
     refine un 22 45 (bsq 23 2) ?_
     refine pu 23 46 (bsq 24 1) ?_
     refine pu 24 4 (bsq 25 0) ?_
     refine done_ (done_of HT_.out (by kernel_rfl)) ?_
     try go_wp2
     go_ret
     exact ⟨by first | rfl | (simp [errW_none, errW_some] <;> rfl) | (simp [*, errW_none, errW_some] <;> rfl), bs HB.out⟩
   ·
    rw [if_neg c12] at H
    have c12b0 : (t194 == t195) = false := by simpa using c12
    (try (have c12b1 : decide (t194 = t195) = false := by simpa using c12))
    (try (have c12b2 : (t194 == t195) = false := by simpa using c12))
    (try (have c12b3 : ¬ (t194 = t195) := by simpa using c12))
    clear c12
    obtain rfl := Option.some.inj H
    go_enter Try.func5, Try.ntmps5
    try go_wp2_with (first | ((with_reducible refine gate_dst (N := 2) rfl ?_); refine box_event ?hg (N := 2) ?hd (cs := #[.int .i64 a0_0, .int .i64 a0_1]) (t := 25) ?hr ?_; (case hd => rfl); (case hg => rfl); (case hr => first | (go_simp; done) | (go_simp; rfl)); intro gb181 hg w64 hbox hb; have n0_ := Aside0.mk (below_step (bs HB.out) hb); have n1_ := Aside0.mk (hbox); have n2_ := Aside0.mk ((by rw [hg]; exact (below_size (bs HB.out)) : w.heap.size ≤ gb181)); have n3_ := n2_; clear HB; have HB := n0_; have BK181 := n1_; have GW181 := n2_; have GE181 := n3_; clear n0_ n1_ n2_ n3_; clear hb hbox hg) | ((with_reducible refine gate_dst (N := 3) rfl ?_); refine box_event ?hg (N := 3) ?hd (cs := #[.int .i64 a1_0, .int .i64 a1_1]) (t := 25) ?hr ?_; (case hd => rfl); (case hg => rfl); (case hr => first | (go_simp; done) | (go_simp; rfl)); intro gb182 hg w65 hbox hb; have n0_ := Aside0.mk (blk_below (bg BK181.out) hb); have n1_ := Aside0.mk (below_step (bs HB.out) hb); have n2_ := Aside0.mk (hbox); have n3_ := Aside0.mk ((by rw [hg]; exact (below_size (bs HB.out)) : w.heap.size ≤ gb182)); have n4_ := n3_; have n5_ := Aside0.mk ((by rw [hg]; exact Nat.ne_of_lt (blk_lt (bg BK181.out)) : gb181 ≠ gb182)); have n6_ := Aside0.mk ((by rw [hg]; exact Nat.ne_of_gt (blk_lt (bg BK181.out)) : gb182 ≠ gb181)); clear BK181; clear HB; have BK181 := n0_; have HB := n1_; have BK182 := n2_; have GW182 := n3_; have GE182 := n4_; have NB181_182 := n5_; have NB182_181 := n6_; clear n0_ n1_ n2_ n3_ n4_ n5_ n6_; clear hb hbox hg) | ((with_reducible refine gate_callee (f := 9) rfl ?_); refine goesL_ (some 9) rfl rfl Try.func9 (by kernel_rfl) rfl #[] rfl (by (try simp only [List.map_toArray, List.map_cons, List.map_nil]); first | done | rfl | (simp only [List.length_drop, List.length_take]; rfl)) ?_; (with_reducible refine (signalbenchlaw06_lives.calls  true _ A3.out).mono ?_); rintro e w66 ⟨rfl, hb⟩; refine ⟨_, rfl, ?_⟩; have n0_ := Aside0.mk (blk_below (bg BK181.out) hb); have n1_ := Aside0.mk (blk_below (bg BK182.out) hb); have n2_ := Aside0.mk (below_step (bs HB.out) hb); clear BK181; clear BK182; clear HB; have BK181 := n0_; have BK182 := n1_; have HB := n2_; clear n0_ n1_ n2_; (try clear hb); (try clear hb2); (try clear hk); (try clear hi); have hnb67 := NB181_182.out; have hnc67 := NB182_181.out; obtain ⟨hcz68_0, hcz68_1⟩ := bc2 BK181.out; obtain ⟨hfz68_0, hfz68_1⟩ := bf2 BK181.out; obtain ⟨hcz69_0, hcz69_1⟩ := bc2 BK182.out; obtain ⟨hfz69_0, hfz69_1⟩ := bf2 BK182.out) | ((with_reducible refine gate_callee (f := 15) rfl ?_); refine goesL_ (some 14) rfl rfl Try.func15 (by kernel_rfl) rfl #[.agg #[.int .i64 a0_0, .int .i64 a0_1], .agg #[.int .i64 a1_0, .int .i64 a1_1]] rfl (by (try simp only [List.map_toArray, List.map_cons, List.map_nil]); first | done | rfl | (simp only [List.length_drop, List.length_take]; rfl)) ?_; (with_reducible refine (span_Common.calls a0_0 a0_1 a1_0 a1_1 t184 t185 t186 _ A5.out).mono ?_); rintro e w70 ⟨rfl, hb⟩; refine ⟨_, rfl, ?_⟩; have n0_ := Aside0.mk (blk_below (bg BK181.out) hb); have n1_ := Aside0.mk (blk_below (bg BK182.out) hb); have n2_ := Aside0.mk (below_step (bs HB.out) hb); clear BK181; clear BK182; clear HB; have BK181 := n0_; have BK182 := n1_; have HB := n2_; clear n0_ n1_ n2_; (try clear hb); (try clear hb2); (try clear hk); (try clear hi)) | ((with_reducible refine gate_dst (N := 5) rfl ?_); refine box_event ?hg (N := 5) ?hd (cs := #[.int .i64 0, .int .i64 0]) (t := 25) ?hr ?_; (case hd => rfl); (case hg => rfl); (case hr => first | (go_simp; done) | (go_simp; rfl)); intro gb187 hg w71 hbox hb; have n0_ := Aside0.mk (blk_below (bg BK181.out) hb); have n1_ := Aside0.mk (blk_below (bg BK182.out) hb); have n2_ := Aside0.mk (below_step (bs HB.out) hb); have n3_ := Aside0.mk (hbox); have n4_ := Aside0.mk ((by rw [hg]; exact (below_size (bs HB.out)) : w.heap.size ≤ gb187)); have n5_ := n4_; have n6_ := Aside0.mk ((by rw [hg]; exact Nat.ne_of_lt (blk_lt (bg BK181.out)) : gb181 ≠ gb187)); have n7_ := Aside0.mk ((by rw [hg]; exact Nat.ne_of_gt (blk_lt (bg BK181.out)) : gb187 ≠ gb181)); have n8_ := Aside0.mk ((by rw [hg]; exact Nat.ne_of_lt (blk_lt (bg BK182.out)) : gb182 ≠ gb187)); have n9_ := Aside0.mk ((by rw [hg]; exact Nat.ne_of_gt (blk_lt (bg BK182.out)) : gb187 ≠ gb182)); clear BK181; clear BK182; clear HB; have BK181 := n0_; have BK182 := n1_; have HB := n2_; have BK187 := n3_; have GW187 := n4_; have GE187 := n5_; have NB181_187 := n6_; have NB187_181 := n7_; have NB182_187 := n8_; have NB187_182 := n9_; clear n0_ n1_ n2_ n3_ n4_ n5_ n6_ n7_ n8_ n9_; clear hb hbox hg; have hnb72 := NB187_181.out; have hnc72 := NB181_187.out; have hnb73 := NB187_182.out; have hnc73 := NB182_187.out; obtain ⟨hcz74_0, hcz74_1⟩ := bc2 BK187.out; obtain ⟨hfz74_0, hfz74_1⟩ := bf2 BK187.out; obtain ⟨hcz75_0, hcz75_1⟩ := bc2 BK181.out; obtain ⟨hfz75_0, hfz75_1⟩ := bf2 BK181.out; obtain ⟨hcz76_0, hcz76_1⟩ := bc2 BK182.out; obtain ⟨hfz76_0, hfz76_1⟩ := bf2 BK182.out) | ((with_reducible refine gate_callee (f := 16) rfl ?_); refine goesL_ (some 20) rfl rfl Try.func16 (by kernel_rfl) rfl #[.agg #[.int .i64 a0_0, .int .i64 a0_1], .agg #[.int .i64 a1_0, .int .i64 a1_1]] rfl (by (try simp only [List.map_toArray, List.map_cons, List.map_nil]); first | done | rfl | (simp only [List.length_drop, List.length_take]; rfl)) ?_; (with_reducible refine (signalbenchref06_Common.calls k a0_0 a0_1 a1_0 a1_1 t188 t189 t190 _ A6.out).mono ?_); rintro e w77 ⟨rfl, hb⟩; refine ⟨_, rfl, ?_⟩; have n0_ := Aside0.mk (blk_below (g := gb181) (o := .cells #[.int .i64 a0_0, .int .i64 a0_1] 25 (0, 0)) (by (iterate 2 (with_reducible repeat (first | refine blk_drewN ?_ _ | refine blk_drew ?_ | refine blk_alloc ?_ _)); refine blk_far ?_ NB181_187.out _); exact bg BK181.out) hb); have n1_ := Aside0.mk (blk_below (g := gb182) (o := .cells #[.int .i64 a1_0, .int .i64 a1_1] 25 (0, 0)) (by (iterate 2 (with_reducible repeat (first | refine blk_drewN ?_ _ | refine blk_drew ?_ | refine blk_alloc ?_ _)); refine blk_far ?_ NB182_187.out _); exact bg BK182.out) hb); have n2_ := Aside0.mk (blk_below (g := gb187) (o := .cells #[.int .i64 t184, .int .i64 t185] 25 (0, 0)) (by exact pt2 (bg BK187.out)) hb); have n3_ := Aside0.mk (below_step (bs HB.out) hb); clear BK181; clear BK182; clear BK187; clear HB; have BK181 := n0_; have BK182 := n1_; have BK187 := n2_; have HB := n3_; clear n0_ n1_ n2_ n3_; (try clear hb); (try clear hb2); (try clear hk); (try clear hi)) | ((with_reducible refine gate_dst (N := 7) rfl ?_); refine box_event ?hg (N := 7) ?hd (cs := #[.int .i64 0, .int .i64 0]) (t := 25) ?hr ?_; (case hd => rfl); (case hg => rfl); (case hr => first | (go_simp; done) | (go_simp; rfl)); intro gb191 hg w78 hbox hb; have n0_ := Aside0.mk (blk_below (bg BK181.out) hb); have n1_ := Aside0.mk (blk_below (bg BK182.out) hb); have n2_ := Aside0.mk (blk_below (bg BK187.out) hb); have n3_ := Aside0.mk (below_step (bs HB.out) hb); have n4_ := Aside0.mk (hbox); have n5_ := Aside0.mk ((by rw [hg]; exact (below_size (bs HB.out)) : w.heap.size ≤ gb191)); have n6_ := n5_; have n7_ := Aside0.mk ((by rw [hg]; exact Nat.ne_of_lt (blk_lt (bg BK181.out)) : gb181 ≠ gb191)); have n8_ := Aside0.mk ((by rw [hg]; exact Nat.ne_of_gt (blk_lt (bg BK181.out)) : gb191 ≠ gb181)); have n9_ := Aside0.mk ((by rw [hg]; exact Nat.ne_of_lt (blk_lt (bg BK182.out)) : gb182 ≠ gb191)); have n10_ := Aside0.mk ((by rw [hg]; exact Nat.ne_of_gt (blk_lt (bg BK182.out)) : gb191 ≠ gb182)); have n11_ := Aside0.mk ((by rw [hg]; exact Nat.ne_of_lt (blk_lt (bg BK187.out)) : gb187 ≠ gb191)); have n12_ := Aside0.mk ((by rw [hg]; exact Nat.ne_of_gt (blk_lt (bg BK187.out)) : gb191 ≠ gb187)); clear BK181; clear BK182; clear BK187; clear HB; have BK181 := n0_; have BK182 := n1_; have BK187 := n2_; have HB := n3_; have BK191 := n4_; have GW191 := n5_; have GE191 := n6_; have NB181_191 := n7_; have NB191_181 := n8_; have NB182_191 := n9_; have NB191_182 := n10_; have NB187_191 := n11_; have NB191_187 := n12_; clear n0_ n1_ n2_ n3_ n4_ n5_ n6_ n7_ n8_ n9_ n10_ n11_ n12_; clear hb hbox hg; have hnb79 := NB191_181.out; have hnc79 := NB181_191.out; have hnb80 := NB191_182.out; have hnc80 := NB182_191.out; have hnb81 := NB191_187.out; have hnc81 := NB187_191.out; obtain ⟨hcz82_0, hcz82_1⟩ := bc2 BK191.out; obtain ⟨hfz82_0, hfz82_1⟩ := bf2 BK191.out))
    have n0_ : Aside0 (((w78.setCell ⟨gb191, 0, none⟩ (.int .i64 t188)).setCell ⟨gb191, 1, none⟩ (.int .i64 t189)).heap[gb181]? = some (.cells #[.int .i64 a0_0, .int .i64 a0_1] 25 (0, 0))) := ⟨by (iterate 2 (with_reducible repeat (first | refine blk_drewN ?_ _ | refine blk_drew ?_ | refine blk_alloc ?_ _)); refine blk_far ?_ NB181_191.out _); exact bg BK181.out⟩
    have n1_ : Aside0 (((w78.setCell ⟨gb191, 0, none⟩ (.int .i64 t188)).setCell ⟨gb191, 1, none⟩ (.int .i64 t189)).heap[gb182]? = some (.cells #[.int .i64 a1_0, .int .i64 a1_1] 25 (0, 0))) := ⟨by (iterate 2 (with_reducible repeat (first | refine blk_drewN ?_ _ | refine blk_drew ?_ | refine blk_alloc ?_ _)); refine blk_far ?_ NB182_191.out _); exact bg BK182.out⟩
    have n2_ : Aside0 (((w78.setCell ⟨gb191, 0, none⟩ (.int .i64 t188)).setCell ⟨gb191, 1, none⟩ (.int .i64 t189)).heap[gb187]? = some (.cells #[.int .i64 t184, .int .i64 t185] 25 (0, 0))) := ⟨by (iterate 2 (with_reducible repeat (first | refine blk_drewN ?_ _ | refine blk_drew ?_ | refine blk_alloc ?_ _)); refine blk_far ?_ NB187_191.out _); exact bg BK187.out⟩
    have n3_ : Aside0 (((w78.setCell ⟨gb191, 0, none⟩ (.int .i64 t188)).setCell ⟨gb191, 1, none⟩ (.int .i64 t189)).heap[gb191]? = some (.cells #[.int .i64 t188, .int .i64 t189] 25 (0, 0))) := ⟨by exact pt2 (bg BK191.out)⟩
    have n4_ : Aside0 (Below w.heap.size w ((w78.setCell ⟨gb191, 0, none⟩ (.int .i64 t188)).setCell ⟨gb191, 1, none⟩ (.int .i64 t189))) := ⟨bs HB.out⟩
    (try clear BK181)
    (try clear BK182)
    (try clear BK187)
    (try clear BK191)
    (try clear HB)
    generalize ((w78.setCell ⟨gb191, 0, none⟩ (.int .i64 t188)).setCell ⟨gb191, 1, none⟩ (.int .i64 t189)) = w83 at n0_ n1_ n2_ n3_ n4_ ⊢
    have BK181 := n0_
    have BK182 := n1_
    have BK187 := n2_
    have BK191 := n3_
    have HB := n4_
    clear n0_ n1_ n2_ n3_ n4_
    have n0_ := Aside0.mk (blk_drew BK181.out)
    have n1_ := Aside0.mk (blk_drew BK182.out)
    have n2_ := Aside0.mk (blk_drew BK187.out)
    have n3_ := Aside0.mk (blk_drew BK191.out)
    have n4_ := Aside0.mk (below_drew1 HB.out)
    clear BK181
    clear BK182
    clear BK187
    clear BK191
    clear HB
    have BK181 := n0_
    have BK182 := n1_
    have BK187 := n2_
    have BK191 := n3_
    have HB := n4_
    clear n0_ n1_ n2_ n3_ n4_
    refine start_ (n := 25) (S := fun w' => w'.cell? ⟨gb181, 0, none⟩ = some (.int .i64 a0_0) ∧ w'.cell? ⟨gb181, 1, none⟩ = some (.int .i64 a0_1) ∧ w'.cell? ⟨gb182, 0, none⟩ = some (.int .i64 a1_0) ∧ w'.cell? ⟨gb182, 1, none⟩ = some (.int .i64 a1_1)) (ds := []) (bsq 0 25) (by kernel_rfl) rfl rfl ⟨(blk_cell BK181.out 0).trans rfl, (blk_cell BK181.out 1).trans rfl, (blk_cell BK182.out 0).trans rfl, (blk_cell BK182.out 1).trans rfl⟩ (fun hHeld => ?_); refine with_tabW signalbenchlaw06_SpanPairs.tab5 signalbenchlaw06_SpanPairs.bits5 (fun HT_ HW_ => ?_)
    generalize w83.drew = w84 at BK181 BK182 BK187 BK191 HB hHeld ⊢
    refine tk 0 23 (bsq 1 24) hHeld ?_ (he := by rintro w' ⟨s0, s1, s2, s3⟩; go_simp; with_reducible rfl)
    refine tk 2 25 (bls [1, 1, 1, 22]) hHeld ?_ (he := by rintro w' ⟨s0, s1, s2, s3⟩; go_simp; with_reducible rfl)
    refine one_ (i := 1) (N := some 24) (bsq 3 22) rfl rfl (one_of HT_.out (by kernel_rfl)) (by decide) (fun K hK => ?_)
    refine goes_ Try.func14 (by kernel_rfl) rfl #[.agg #[.int .i64 a0_0, .int .i64 a0_1]] (by rfl) rfl rfl (by (try simp only [List.map_toArray, List.map_cons, List.map_nil]); first | done | rfl | (simp only [List.length_drop, List.length_take]; rfl)) ?_
    with_reducible refine (span_Valid.calls a0_0 a0_1 t192 _ A7.out).mono ?_
    rintro e w85 ⟨rfl, hb⟩
    refine ⟨_, rfl, ?_⟩
    have n0_ := Aside0.mk (blk_below (bg BK181.out) hb)
    have n1_ := Aside0.mk (blk_below (bg BK182.out) hb)
    have n2_ := Aside0.mk (blk_below (bg BK187.out) hb)
    have n3_ := Aside0.mk (blk_below (bg BK191.out) hb)
    have n4_ := Aside0.mk (below_step (bs HB.out) hb)
    clear BK181
    clear BK182
    clear BK187
    clear BK191
    clear HB
    have BK181 := n0_
    have BK182 := n1_
    have BK187 := n2_
    have BK191 := n3_
    have HB := n4_
    clear n0_ n1_ n2_ n3_ n4_
    (try clear hb)
    (try clear hb2)
    (try clear hk)
    (try clear hi)
    refine hK.out _ _ ⟨(blk_cell BK181.out 0).trans rfl, (blk_cell BK181.out 1).trans rfl, (blk_cell BK182.out 0).trans rfl, (blk_cell BK182.out 1).trans rfl⟩ (fun hHeld => ?_)
    clear hK K
    refine norm_ (a' := ?_) ?_ ?_
    rotate_left
    ·
     show Act.put _ (some 24) _ = _
     simp only [Act.put, List.setIfInBounds_toArray, List.set_cons_zero, List.set_cons_succ, i64_w, i32_w]
     rfl
    refine one_ (i := 3) (N := some 26) (bsq 4 21) rfl rfl (one_of HT_.out (by kernel_rfl)) (by decide) (fun K hK => ?_)
    refine goes_ Try.func17 (by kernel_rfl) rfl #[.agg #[.int .i64 a0_0, .int .i64 a0_1]] (by rfl) rfl rfl (by (try simp only [List.map_toArray, List.map_cons, List.map_nil]); first | done | rfl | (simp only [List.length_drop, List.length_take]; rfl)) ?_
    with_reducible refine (signalbenchref06_Valid.calls a0_0 a0_1 t193 _ A8.out).mono ?_
    rintro e w86 ⟨rfl, hb⟩
    refine ⟨_, rfl, ?_⟩
    have n0_ := Aside0.mk (blk_below (bg BK181.out) hb)
    have n1_ := Aside0.mk (blk_below (bg BK182.out) hb)
    have n2_ := Aside0.mk (blk_below (bg BK187.out) hb)
    have n3_ := Aside0.mk (blk_below (bg BK191.out) hb)
    have n4_ := Aside0.mk (below_step (bs HB.out) hb)
    clear BK181
    clear BK182
    clear BK187
    clear BK191
    clear HB
    have BK181 := n0_
    have BK182 := n1_
    have BK187 := n2_
    have BK191 := n3_
    have HB := n4_
    clear n0_ n1_ n2_ n3_ n4_
    (try clear hb)
    (try clear hb2)
    (try clear hk)
    (try clear hi)
    refine hK.out _ _ ⟨(blk_cell BK181.out 0).trans rfl, (blk_cell BK181.out 1).trans rfl, (blk_cell BK182.out 0).trans rfl, (blk_cell BK182.out 1).trans rfl⟩ (fun hHeld => ?_)
    clear hK K
    refine norm_ (a' := ?_) ?_ ?_
    rotate_left
    ·
     show Act.put _ (some 26) _ = _
     simp only [Act.put, List.setIfInBounds_toArray, List.set_cons_zero, List.set_cons_succ, i64_w, i32_w]
     rfl
    refine pu 4 27 (bsq 5 20) ?_
    refine pu 5 28 (bsq 6 19) ?_
    refine tk 6 29 (bsq 7 18) hHeld ?_ (he := by rintro w' ⟨s0, s1, s2, s3⟩; go_simp; with_reducible rfl)
    refine tk 7 30 (bsq 8 17) hHeld ?_ (he := by rintro w' ⟨s0, s1, s2, s3⟩; go_simp; with_reducible rfl)
    refine tk 9 32 (bls [8, 1, 1, 15]) hHeld ?_ (he := by rintro w' ⟨s0, s1, s2, s3⟩; go_simp; with_reducible rfl)
    refine tk 10 33 (bls [8, 1, 2, 14]) hHeld ?_ (he := by rintro w' ⟨s0, s1, s2, s3⟩; go_simp; with_reducible rfl)
    refine one_ (i := 8) (N := some 31) (bsq 11 14) rfl rfl (one_of HT_.out (by kernel_rfl)) (by decide) (fun K hK => ?_)
    refine goes_ Try.func18 (by kernel_rfl) rfl #[.agg #[.int .i64 a0_0, .int .i64 a0_1], .agg #[.int .i64 a1_0, .int .i64 a1_1]] (by rfl) rfl rfl (by (try simp only [List.map_toArray, List.map_cons, List.map_nil]); first | done | rfl | (simp only [List.length_drop, List.length_take]; rfl)) ?_
    with_reducible refine (span_Meets.calls a0_0 a0_1 a1_0 a1_1 t194 _ A10.out).mono ?_
    rintro e w87 ⟨rfl, hb⟩
    refine ⟨_, rfl, ?_⟩
    have n0_ := Aside0.mk (blk_below (bg BK181.out) hb)
    have n1_ := Aside0.mk (blk_below (bg BK182.out) hb)
    have n2_ := Aside0.mk (blk_below (bg BK187.out) hb)
    have n3_ := Aside0.mk (blk_below (bg BK191.out) hb)
    have n4_ := Aside0.mk (below_step (bs HB.out) hb)
    clear BK181
    clear BK182
    clear BK187
    clear BK191
    clear HB
    have BK181 := n0_
    have BK182 := n1_
    have BK187 := n2_
    have BK191 := n3_
    have HB := n4_
    clear n0_ n1_ n2_ n3_ n4_
    (try clear hb)
    (try clear hb2)
    (try clear hk)
    (try clear hi)
    refine hK.out _ _ ⟨(blk_cell BK181.out 0).trans rfl, (blk_cell BK181.out 1).trans rfl, (blk_cell BK182.out 0).trans rfl, (blk_cell BK182.out 1).trans rfl⟩ (fun hHeld => ?_)
    clear hK K
    refine norm_ (a' := ?_) ?_ ?_
    rotate_left
    ·
     show Act.put _ (some 31) _ = _
     simp only [Act.put, List.setIfInBounds_toArray, List.set_cons_zero, List.set_cons_succ, i64_w, i32_w]
     rfl
    refine one_ (i := 11) (N := some 34) (bsq 12 13) rfl rfl (one_of HT_.out (by kernel_rfl)) (by decide) (fun K hK => ?_)
    refine goes_ Try.func19 (by kernel_rfl) rfl #[.agg #[.int .i64 a0_0, .int .i64 a0_1], .agg #[.int .i64 a1_0, .int .i64 a1_1]] (by rfl) rfl rfl (by (try simp only [List.map_toArray, List.map_cons, List.map_nil]); first | done | rfl | (simp only [List.length_drop, List.length_take]; rfl)) ?_
    with_reducible refine (signalbenchref06_Meets.calls k a0_0 a0_1 a1_0 a1_1 t195 _ A11.out).mono ?_
    rintro e w88 ⟨rfl, hb⟩
    refine ⟨_, rfl, ?_⟩
    have n0_ := Aside0.mk (blk_below (bg BK181.out) hb)
    have n1_ := Aside0.mk (blk_below (bg BK182.out) hb)
    have n2_ := Aside0.mk (blk_below (bg BK187.out) hb)
    have n3_ := Aside0.mk (blk_below (bg BK191.out) hb)
    have n4_ := Aside0.mk (below_step (bs HB.out) hb)
    clear BK181
    clear BK182
    clear BK187
    clear BK191
    clear HB
    have BK181 := n0_
    have BK182 := n1_
    have BK187 := n2_
    have BK191 := n3_
    have HB := n4_
    clear n0_ n1_ n2_ n3_ n4_
    (try clear hb)
    (try clear hb2)
    (try clear hk)
    (try clear hi)
    refine hK.out _ _ ⟨(blk_cell BK181.out 0).trans rfl, (blk_cell BK181.out 1).trans rfl, (blk_cell BK182.out 0).trans rfl, (blk_cell BK182.out 1).trans rfl⟩ (fun hHeld => ?_)
    clear hK K
    refine norm_ (a' := ?_) ?_ ?_
    rotate_left
    ·
     show Act.put _ (some 34) _ = _
     simp only [Act.put, List.setIfInBounds_toArray, List.set_cons_zero, List.set_cons_succ, i64_w, i32_w]
     rfl
    refine pu 12 35 (bsq 13 12) ?_
    refine pu 13 36 (bsq 14 11) ?_
    refine pu 14 37 (bsq 15 10) ?_
    refine un 15 38 (bsq 16 9) ?_
    refine un 16 39 (bsq 17 8) ?_
    refine un 17 40 (bsq 18 7) ?_
    refine pu 18 41 (bsq 19 6) ?_
    refine pu 19 42 (bsq 20 5) ?_
    refine un 20 43 (bsq 21 4) ?_
    refine un 21 44 (bsq 22 3) ?_
    refine un 22 45 (bsq 23 2) ?_
    refine pu 23 46 (bsq 24 1) ?_
    refine pu 24 4 (bsq 25 0) ?_
    refine done_ (done_of HT_.out (by kernel_rfl)) ?_
    try go_wp2
    go_ret
    exact ⟨by first | rfl | (simp [errW_none, errW_some] <;> rfl) | (simp [*, errW_none, errW_some] <;> rfl), bs HB.out⟩
  ·
   rw [if_neg c9] at H
   have c9b0 : (t192 == t193) = false := by simpa using c9
   (try (have c9b1 : decide (t192 = t193) = false := by simpa using c9))
   (try (have c9b2 : (t192 == t193) = false := by simpa using c9))
   (try (have c9b3 : ¬ (t192 = t193) := by simpa using c9))
   clear c9
   obtain rfl := Option.some.inj H
   go_enter Try.func5, Try.ntmps5
   try go_wp2_with (first | ((with_reducible refine gate_dst (N := 2) rfl ?_); refine box_event ?hg (N := 2) ?hd (cs := #[.int .i64 a0_0, .int .i64 a0_1]) (t := 25) ?hr ?_; (case hd => rfl); (case hg => rfl); (case hr => first | (go_simp; done) | (go_simp; rfl)); intro gb181 hg w89 hbox hb; have n0_ := Aside0.mk (below_step (bs HB.out) hb); have n1_ := Aside0.mk (hbox); have n2_ := Aside0.mk ((by rw [hg]; exact (below_size (bs HB.out)) : w.heap.size ≤ gb181)); have n3_ := n2_; clear HB; have HB := n0_; have BK181 := n1_; have GW181 := n2_; have GE181 := n3_; clear n0_ n1_ n2_ n3_; clear hb hbox hg) | ((with_reducible refine gate_dst (N := 3) rfl ?_); refine box_event ?hg (N := 3) ?hd (cs := #[.int .i64 a1_0, .int .i64 a1_1]) (t := 25) ?hr ?_; (case hd => rfl); (case hg => rfl); (case hr => first | (go_simp; done) | (go_simp; rfl)); intro gb182 hg w90 hbox hb; have n0_ := Aside0.mk (blk_below (bg BK181.out) hb); have n1_ := Aside0.mk (below_step (bs HB.out) hb); have n2_ := Aside0.mk (hbox); have n3_ := Aside0.mk ((by rw [hg]; exact (below_size (bs HB.out)) : w.heap.size ≤ gb182)); have n4_ := n3_; have n5_ := Aside0.mk ((by rw [hg]; exact Nat.ne_of_lt (blk_lt (bg BK181.out)) : gb181 ≠ gb182)); have n6_ := Aside0.mk ((by rw [hg]; exact Nat.ne_of_gt (blk_lt (bg BK181.out)) : gb182 ≠ gb181)); clear BK181; clear HB; have BK181 := n0_; have HB := n1_; have BK182 := n2_; have GW182 := n3_; have GE182 := n4_; have NB181_182 := n5_; have NB182_181 := n6_; clear n0_ n1_ n2_ n3_ n4_ n5_ n6_; clear hb hbox hg) | ((with_reducible refine gate_callee (f := 9) rfl ?_); refine goesL_ (some 9) rfl rfl Try.func9 (by kernel_rfl) rfl #[] rfl (by (try simp only [List.map_toArray, List.map_cons, List.map_nil]); first | done | rfl | (simp only [List.length_drop, List.length_take]; rfl)) ?_; (with_reducible refine (signalbenchlaw06_lives.calls  true _ A3.out).mono ?_); rintro e w91 ⟨rfl, hb⟩; refine ⟨_, rfl, ?_⟩; have n0_ := Aside0.mk (blk_below (bg BK181.out) hb); have n1_ := Aside0.mk (blk_below (bg BK182.out) hb); have n2_ := Aside0.mk (below_step (bs HB.out) hb); clear BK181; clear BK182; clear HB; have BK181 := n0_; have BK182 := n1_; have HB := n2_; clear n0_ n1_ n2_; (try clear hb); (try clear hb2); (try clear hk); (try clear hi); have hnb92 := NB181_182.out; have hnc92 := NB182_181.out; obtain ⟨hcz93_0, hcz93_1⟩ := bc2 BK181.out; obtain ⟨hfz93_0, hfz93_1⟩ := bf2 BK181.out; obtain ⟨hcz94_0, hcz94_1⟩ := bc2 BK182.out; obtain ⟨hfz94_0, hfz94_1⟩ := bf2 BK182.out) | ((with_reducible refine gate_callee (f := 15) rfl ?_); refine goesL_ (some 14) rfl rfl Try.func15 (by kernel_rfl) rfl #[.agg #[.int .i64 a0_0, .int .i64 a0_1], .agg #[.int .i64 a1_0, .int .i64 a1_1]] rfl (by (try simp only [List.map_toArray, List.map_cons, List.map_nil]); first | done | rfl | (simp only [List.length_drop, List.length_take]; rfl)) ?_; (with_reducible refine (span_Common.calls a0_0 a0_1 a1_0 a1_1 t184 t185 t186 _ A5.out).mono ?_); rintro e w95 ⟨rfl, hb⟩; refine ⟨_, rfl, ?_⟩; have n0_ := Aside0.mk (blk_below (bg BK181.out) hb); have n1_ := Aside0.mk (blk_below (bg BK182.out) hb); have n2_ := Aside0.mk (below_step (bs HB.out) hb); clear BK181; clear BK182; clear HB; have BK181 := n0_; have BK182 := n1_; have HB := n2_; clear n0_ n1_ n2_; (try clear hb); (try clear hb2); (try clear hk); (try clear hi)) | ((with_reducible refine gate_dst (N := 5) rfl ?_); refine box_event ?hg (N := 5) ?hd (cs := #[.int .i64 0, .int .i64 0]) (t := 25) ?hr ?_; (case hd => rfl); (case hg => rfl); (case hr => first | (go_simp; done) | (go_simp; rfl)); intro gb187 hg w96 hbox hb; have n0_ := Aside0.mk (blk_below (bg BK181.out) hb); have n1_ := Aside0.mk (blk_below (bg BK182.out) hb); have n2_ := Aside0.mk (below_step (bs HB.out) hb); have n3_ := Aside0.mk (hbox); have n4_ := Aside0.mk ((by rw [hg]; exact (below_size (bs HB.out)) : w.heap.size ≤ gb187)); have n5_ := n4_; have n6_ := Aside0.mk ((by rw [hg]; exact Nat.ne_of_lt (blk_lt (bg BK181.out)) : gb181 ≠ gb187)); have n7_ := Aside0.mk ((by rw [hg]; exact Nat.ne_of_gt (blk_lt (bg BK181.out)) : gb187 ≠ gb181)); have n8_ := Aside0.mk ((by rw [hg]; exact Nat.ne_of_lt (blk_lt (bg BK182.out)) : gb182 ≠ gb187)); have n9_ := Aside0.mk ((by rw [hg]; exact Nat.ne_of_gt (blk_lt (bg BK182.out)) : gb187 ≠ gb182)); clear BK181; clear BK182; clear HB; have BK181 := n0_; have BK182 := n1_; have HB := n2_; have BK187 := n3_; have GW187 := n4_; have GE187 := n5_; have NB181_187 := n6_; have NB187_181 := n7_; have NB182_187 := n8_; have NB187_182 := n9_; clear n0_ n1_ n2_ n3_ n4_ n5_ n6_ n7_ n8_ n9_; clear hb hbox hg; have hnb97 := NB187_181.out; have hnc97 := NB181_187.out; have hnb98 := NB187_182.out; have hnc98 := NB182_187.out; obtain ⟨hcz99_0, hcz99_1⟩ := bc2 BK187.out; obtain ⟨hfz99_0, hfz99_1⟩ := bf2 BK187.out; obtain ⟨hcz100_0, hcz100_1⟩ := bc2 BK181.out; obtain ⟨hfz100_0, hfz100_1⟩ := bf2 BK181.out; obtain ⟨hcz101_0, hcz101_1⟩ := bc2 BK182.out; obtain ⟨hfz101_0, hfz101_1⟩ := bf2 BK182.out) | ((with_reducible refine gate_callee (f := 16) rfl ?_); refine goesL_ (some 20) rfl rfl Try.func16 (by kernel_rfl) rfl #[.agg #[.int .i64 a0_0, .int .i64 a0_1], .agg #[.int .i64 a1_0, .int .i64 a1_1]] rfl (by (try simp only [List.map_toArray, List.map_cons, List.map_nil]); first | done | rfl | (simp only [List.length_drop, List.length_take]; rfl)) ?_; (with_reducible refine (signalbenchref06_Common.calls k a0_0 a0_1 a1_0 a1_1 t188 t189 t190 _ A6.out).mono ?_); rintro e w102 ⟨rfl, hb⟩; refine ⟨_, rfl, ?_⟩; have n0_ := Aside0.mk (blk_below (g := gb181) (o := .cells #[.int .i64 a0_0, .int .i64 a0_1] 25 (0, 0)) (by (iterate 2 (with_reducible repeat (first | refine blk_drewN ?_ _ | refine blk_drew ?_ | refine blk_alloc ?_ _)); refine blk_far ?_ NB181_187.out _); exact bg BK181.out) hb); have n1_ := Aside0.mk (blk_below (g := gb182) (o := .cells #[.int .i64 a1_0, .int .i64 a1_1] 25 (0, 0)) (by (iterate 2 (with_reducible repeat (first | refine blk_drewN ?_ _ | refine blk_drew ?_ | refine blk_alloc ?_ _)); refine blk_far ?_ NB182_187.out _); exact bg BK182.out) hb); have n2_ := Aside0.mk (blk_below (g := gb187) (o := .cells #[.int .i64 t184, .int .i64 t185] 25 (0, 0)) (by exact pt2 (bg BK187.out)) hb); have n3_ := Aside0.mk (below_step (bs HB.out) hb); clear BK181; clear BK182; clear BK187; clear HB; have BK181 := n0_; have BK182 := n1_; have BK187 := n2_; have HB := n3_; clear n0_ n1_ n2_ n3_; (try clear hb); (try clear hb2); (try clear hk); (try clear hi)) | ((with_reducible refine gate_dst (N := 7) rfl ?_); refine box_event ?hg (N := 7) ?hd (cs := #[.int .i64 0, .int .i64 0]) (t := 25) ?hr ?_; (case hd => rfl); (case hg => rfl); (case hr => first | (go_simp; done) | (go_simp; rfl)); intro gb191 hg w103 hbox hb; have n0_ := Aside0.mk (blk_below (bg BK181.out) hb); have n1_ := Aside0.mk (blk_below (bg BK182.out) hb); have n2_ := Aside0.mk (blk_below (bg BK187.out) hb); have n3_ := Aside0.mk (below_step (bs HB.out) hb); have n4_ := Aside0.mk (hbox); have n5_ := Aside0.mk ((by rw [hg]; exact (below_size (bs HB.out)) : w.heap.size ≤ gb191)); have n6_ := n5_; have n7_ := Aside0.mk ((by rw [hg]; exact Nat.ne_of_lt (blk_lt (bg BK181.out)) : gb181 ≠ gb191)); have n8_ := Aside0.mk ((by rw [hg]; exact Nat.ne_of_gt (blk_lt (bg BK181.out)) : gb191 ≠ gb181)); have n9_ := Aside0.mk ((by rw [hg]; exact Nat.ne_of_lt (blk_lt (bg BK182.out)) : gb182 ≠ gb191)); have n10_ := Aside0.mk ((by rw [hg]; exact Nat.ne_of_gt (blk_lt (bg BK182.out)) : gb191 ≠ gb182)); have n11_ := Aside0.mk ((by rw [hg]; exact Nat.ne_of_lt (blk_lt (bg BK187.out)) : gb187 ≠ gb191)); have n12_ := Aside0.mk ((by rw [hg]; exact Nat.ne_of_gt (blk_lt (bg BK187.out)) : gb191 ≠ gb187)); clear BK181; clear BK182; clear BK187; clear HB; have BK181 := n0_; have BK182 := n1_; have BK187 := n2_; have HB := n3_; have BK191 := n4_; have GW191 := n5_; have GE191 := n6_; have NB181_191 := n7_; have NB191_181 := n8_; have NB182_191 := n9_; have NB191_182 := n10_; have NB187_191 := n11_; have NB191_187 := n12_; clear n0_ n1_ n2_ n3_ n4_ n5_ n6_ n7_ n8_ n9_ n10_ n11_ n12_; clear hb hbox hg; have hnb104 := NB191_181.out; have hnc104 := NB181_191.out; have hnb105 := NB191_182.out; have hnc105 := NB182_191.out; have hnb106 := NB191_187.out; have hnc106 := NB187_191.out; obtain ⟨hcz107_0, hcz107_1⟩ := bc2 BK191.out; obtain ⟨hfz107_0, hfz107_1⟩ := bf2 BK191.out))
   have n0_ : Aside0 (((w103.setCell ⟨gb191, 0, none⟩ (.int .i64 t188)).setCell ⟨gb191, 1, none⟩ (.int .i64 t189)).heap[gb181]? = some (.cells #[.int .i64 a0_0, .int .i64 a0_1] 25 (0, 0))) := ⟨by (iterate 2 (with_reducible repeat (first | refine blk_drewN ?_ _ | refine blk_drew ?_ | refine blk_alloc ?_ _)); refine blk_far ?_ NB181_191.out _); exact bg BK181.out⟩
   have n1_ : Aside0 (((w103.setCell ⟨gb191, 0, none⟩ (.int .i64 t188)).setCell ⟨gb191, 1, none⟩ (.int .i64 t189)).heap[gb182]? = some (.cells #[.int .i64 a1_0, .int .i64 a1_1] 25 (0, 0))) := ⟨by (iterate 2 (with_reducible repeat (first | refine blk_drewN ?_ _ | refine blk_drew ?_ | refine blk_alloc ?_ _)); refine blk_far ?_ NB182_191.out _); exact bg BK182.out⟩
   have n2_ : Aside0 (((w103.setCell ⟨gb191, 0, none⟩ (.int .i64 t188)).setCell ⟨gb191, 1, none⟩ (.int .i64 t189)).heap[gb187]? = some (.cells #[.int .i64 t184, .int .i64 t185] 25 (0, 0))) := ⟨by (iterate 2 (with_reducible repeat (first | refine blk_drewN ?_ _ | refine blk_drew ?_ | refine blk_alloc ?_ _)); refine blk_far ?_ NB187_191.out _); exact bg BK187.out⟩
   have n3_ : Aside0 (((w103.setCell ⟨gb191, 0, none⟩ (.int .i64 t188)).setCell ⟨gb191, 1, none⟩ (.int .i64 t189)).heap[gb191]? = some (.cells #[.int .i64 t188, .int .i64 t189] 25 (0, 0))) := ⟨by exact pt2 (bg BK191.out)⟩
   have n4_ : Aside0 (Below w.heap.size w ((w103.setCell ⟨gb191, 0, none⟩ (.int .i64 t188)).setCell ⟨gb191, 1, none⟩ (.int .i64 t189))) := ⟨bs HB.out⟩
   (try clear BK181)
   (try clear BK182)
   (try clear BK187)
   (try clear BK191)
   (try clear HB)
   generalize ((w103.setCell ⟨gb191, 0, none⟩ (.int .i64 t188)).setCell ⟨gb191, 1, none⟩ (.int .i64 t189)) = w108 at n0_ n1_ n2_ n3_ n4_ ⊢
   have BK181 := n0_
   have BK182 := n1_
   have BK187 := n2_
   have BK191 := n3_
   have HB := n4_
   clear n0_ n1_ n2_ n3_ n4_
   have n0_ := Aside0.mk (blk_drew BK181.out)
   have n1_ := Aside0.mk (blk_drew BK182.out)
   have n2_ := Aside0.mk (blk_drew BK187.out)
   have n3_ := Aside0.mk (blk_drew BK191.out)
   have n4_ := Aside0.mk (below_drew1 HB.out)
   clear BK181
   clear BK182
   clear BK187
   clear BK191
   clear HB
   have BK181 := n0_
   have BK182 := n1_
   have BK187 := n2_
   have BK191 := n3_
   have HB := n4_
   clear n0_ n1_ n2_ n3_ n4_
   refine start_ (n := 25) (S := fun w' => w'.cell? ⟨gb181, 0, none⟩ = some (.int .i64 a0_0) ∧ w'.cell? ⟨gb181, 1, none⟩ = some (.int .i64 a0_1)) (ds := []) (bsq 0 25) (by kernel_rfl) rfl rfl ⟨(blk_cell BK181.out 0).trans rfl, (blk_cell BK181.out 1).trans rfl⟩ (fun hHeld => ?_); refine with_tabW signalbenchlaw06_SpanPairs.tab5 signalbenchlaw06_SpanPairs.bits5 (fun HT_ HW_ => ?_)
   generalize w108.drew = w109 at BK181 BK182 BK187 BK191 HB hHeld ⊢
   refine tk 0 23 (bsq 1 24) hHeld ?_ (he := by rintro w' ⟨s0, s1⟩; go_simp; with_reducible rfl)
   refine tk 2 25 (bls [1, 1, 1, 22]) hHeld ?_ (he := by rintro w' ⟨s0, s1⟩; go_simp; with_reducible rfl)
   refine one_ (i := 1) (N := some 24) (bsq 3 22) rfl rfl (one_of HT_.out (by kernel_rfl)) (by decide) (fun K hK => ?_)
   refine goes_ Try.func14 (by kernel_rfl) rfl #[.agg #[.int .i64 a0_0, .int .i64 a0_1]] (by rfl) rfl rfl (by (try simp only [List.map_toArray, List.map_cons, List.map_nil]); first | done | rfl | (simp only [List.length_drop, List.length_take]; rfl)) ?_
   with_reducible refine (span_Valid.calls a0_0 a0_1 t192 _ A7.out).mono ?_
   rintro e w110 ⟨rfl, hb⟩
   refine ⟨_, rfl, ?_⟩
   have n0_ := Aside0.mk (blk_below (bg BK181.out) hb)
   have n1_ := Aside0.mk (blk_below (bg BK182.out) hb)
   have n2_ := Aside0.mk (blk_below (bg BK187.out) hb)
   have n3_ := Aside0.mk (blk_below (bg BK191.out) hb)
   have n4_ := Aside0.mk (below_step (bs HB.out) hb)
   clear BK181
   clear BK182
   clear BK187
   clear BK191
   clear HB
   have BK181 := n0_
   have BK182 := n1_
   have BK187 := n2_
   have BK191 := n3_
   have HB := n4_
   clear n0_ n1_ n2_ n3_ n4_
   (try clear hb)
   (try clear hb2)
   (try clear hk)
   (try clear hi)
   refine hK.out _ _ ⟨(blk_cell BK181.out 0).trans rfl, (blk_cell BK181.out 1).trans rfl⟩ (fun hHeld => ?_)
   clear hK K
   refine norm_ (a' := ?_) ?_ ?_
   rotate_left
   ·
    show Act.put _ (some 24) _ = _
    simp only [Act.put, List.setIfInBounds_toArray, List.set_cons_zero, List.set_cons_succ, i64_w, i32_w]
    rfl
   refine one_ (i := 3) (N := some 26) (bsq 4 21) rfl rfl (one_of HT_.out (by kernel_rfl)) (by decide) (fun K hK => ?_)
   refine goes_ Try.func17 (by kernel_rfl) rfl #[.agg #[.int .i64 a0_0, .int .i64 a0_1]] (by rfl) rfl rfl (by (try simp only [List.map_toArray, List.map_cons, List.map_nil]); first | done | rfl | (simp only [List.length_drop, List.length_take]; rfl)) ?_
   with_reducible refine (signalbenchref06_Valid.calls a0_0 a0_1 t193 _ A8.out).mono ?_
   rintro e w111 ⟨rfl, hb⟩
   refine ⟨_, rfl, ?_⟩
   have n0_ := Aside0.mk (blk_below (bg BK181.out) hb)
   have n1_ := Aside0.mk (blk_below (bg BK182.out) hb)
   have n2_ := Aside0.mk (blk_below (bg BK187.out) hb)
   have n3_ := Aside0.mk (blk_below (bg BK191.out) hb)
   have n4_ := Aside0.mk (below_step (bs HB.out) hb)
   clear BK181
   clear BK182
   clear BK187
   clear BK191
   clear HB
   have BK181 := n0_
   have BK182 := n1_
   have BK187 := n2_
   have BK191 := n3_
   have HB := n4_
   clear n0_ n1_ n2_ n3_ n4_
   (try clear hb)
   (try clear hb2)
   (try clear hk)
   (try clear hi)
   refine hK.out _ _ ⟨(blk_cell BK181.out 0).trans rfl, (blk_cell BK181.out 1).trans rfl⟩ (fun hHeld => ?_)
   clear hK K
   refine norm_ (a' := ?_) ?_ ?_
   rotate_left
   ·
    show Act.put _ (some 26) _ = _
    simp only [Act.put, List.setIfInBounds_toArray, List.set_cons_zero, List.set_cons_succ, i64_w, i32_w]
    rfl
   refine pu 4 27 (bsq 5 20) ?_
   refine pu 5 28 (bsq 6 19) ?_
   refine un 6 29 (bsq 7 18) ?_
   refine un 7 30 (bsq 8 17) ?_
   refine un 8 31 (bsq 9 16) ?_
   refine un 9 32 (bsq 10 15) ?_
   refine un 10 33 (bsq 11 14) ?_
   refine un 11 34 (bsq 12 13) ?_
   refine un 12 35 (bsq 13 12) ?_
   refine pu 13 36 (bsq 14 11) ?_
   refine pu 14 37 (bsq 15 10) ?_
   refine un 15 38 (bsq 16 9) ?_
   refine un 16 39 (bsq 17 8) ?_
   refine un 17 40 (bsq 18 7) ?_
   refine pu 18 41 (bsq 19 6) ?_
   refine pu 19 42 (bsq 20 5) ?_
   refine un 20 43 (bsq 21 4) ?_
   refine un 21 44 (bsq 22 3) ?_
   refine un 22 45 (bsq 23 2) ?_
   refine pu 23 46 (bsq 24 1) ?_
   refine pu 24 4 (bsq 25 0) ?_
   refine done_ (done_of HT_.out (by kernel_rfl)) ?_
   try go_wp2
   go_ret
   exact ⟨by first | rfl | (simp [errW_none, errW_some] <;> rfl) | (simp [*, errW_none, errW_some] <;> rfl), bs HB.out⟩
 ·
  replace c4 := Bool.eq_false_iff.mpr c4
  subst c4
  have H1 : (some false) = some r := by rw [if_neg (show ¬ (false = true) by decide)] at H; exact H
  clear H
  have H := H1
  clear H1
  obtain rfl := Option.some.inj H
  go_enter Try.func5, Try.ntmps5
  go_wp2_with (first | ((with_reducible refine gate_dst (N := 2) rfl ?_); refine box_event ?hg (N := 2) ?hd (cs := #[.int .i64 a0_0, .int .i64 a0_1]) (t := 25) ?hr ?_; (case hd => rfl); (case hg => rfl); (case hr => first | (go_simp; done) | (go_simp; rfl)); intro gb181 hg w112 hbox hb; have n0_ := Aside0.mk (below_step (bs HB.out) hb); have n1_ := Aside0.mk (hbox); have n2_ := Aside0.mk ((by rw [hg]; exact (below_size (bs HB.out)) : w.heap.size ≤ gb181)); have n3_ := n2_; clear HB; have HB := n0_; have BK181 := n1_; have GW181 := n2_; have GE181 := n3_; clear n0_ n1_ n2_ n3_; clear hb hbox hg) | ((with_reducible refine gate_dst (N := 3) rfl ?_); refine box_event ?hg (N := 3) ?hd (cs := #[.int .i64 a1_0, .int .i64 a1_1]) (t := 25) ?hr ?_; (case hd => rfl); (case hg => rfl); (case hr => first | (go_simp; done) | (go_simp; rfl)); intro gb182 hg w113 hbox hb; have n0_ := Aside0.mk (blk_below (bg BK181.out) hb); have n1_ := Aside0.mk (below_step (bs HB.out) hb); have n2_ := Aside0.mk (hbox); have n3_ := Aside0.mk ((by rw [hg]; exact (below_size (bs HB.out)) : w.heap.size ≤ gb182)); have n4_ := n3_; have n5_ := Aside0.mk ((by rw [hg]; exact Nat.ne_of_lt (blk_lt (bg BK181.out)) : gb181 ≠ gb182)); have n6_ := Aside0.mk ((by rw [hg]; exact Nat.ne_of_gt (blk_lt (bg BK181.out)) : gb182 ≠ gb181)); clear BK181; clear HB; have BK181 := n0_; have HB := n1_; have BK182 := n2_; have GW182 := n3_; have GE182 := n4_; have NB181_182 := n5_; have NB182_181 := n6_; clear n0_ n1_ n2_ n3_ n4_ n5_ n6_; clear hb hbox hg) | ((with_reducible refine gate_callee (f := 9) rfl ?_); refine goesL_ (some 9) rfl rfl Try.func9 (by kernel_rfl) rfl #[] rfl (by (try simp only [List.map_toArray, List.map_cons, List.map_nil]); first | done | rfl | (simp only [List.length_drop, List.length_take]; rfl)) ?_; (with_reducible refine (signalbenchlaw06_lives.calls  false _ A3.out).mono ?_); rintro e w114 ⟨rfl, hb⟩; refine ⟨_, rfl, ?_⟩; have n0_ := Aside0.mk (blk_below (bg BK181.out) hb); have n1_ := Aside0.mk (blk_below (bg BK182.out) hb); have n2_ := Aside0.mk (below_step (bs HB.out) hb); clear BK181; clear BK182; clear HB; have BK181 := n0_; have BK182 := n1_; have HB := n2_; clear n0_ n1_ n2_; (try clear hb); (try clear hb2); (try clear hk); (try clear hi)))
  go_ret
  exact ⟨by first | rfl | (simp [errW_none, errW_some] <;> rfl) | (simp [*, errW_none, errW_some] <;> rfl), bs HB.out⟩

end Go.Proofs.Ytejmegaalfblmaa.H
