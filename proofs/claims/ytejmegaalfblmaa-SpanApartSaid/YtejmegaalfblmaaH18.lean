-- Printed by wip/hprint.py (this project's own driver of the kit's print) out of the translation; Lean checks it.
import Derived.Test.YtejmegaalfblmaaH0
import Derived.Test.YtejmegaalfblmaaH3
import Derived.Test.YtejmegaalfblmaaH4
import Derived.Test.YtejmegaalfblmaaH17
import Derived.Test.YtejmegaalfblmaaHJoin
namespace Go.Proofs.Ytejmegaalfblmaa.H
open Go.RowKit Go.Proofs.YtejmegaalfblmaaW.PrintWords Go.Proofs.YtejmegaalfblmaaW.PrintLast Go.Proofs.YtejmegaalfblmaaW.PrintMore
attribute [local go_sem] max2_int min2_int max_two min_two max_three min_three max_four min_four   -- for this text's walks alone
set_option linter.unusedVariables false
set_option linter.unusedSimpArgs false

/-! ### signalbenchlaw06_SpanApart: function 6 -/
mutual
def signalbenchlaw06_SpanApart.l0 : Nat → List (S25) → List (S25) → Int → Int → Int → Option (Bool)
 | 0, _, _, _, _, _ => none
 | k + 1, x5, x6, x7, x214000, x214001 => if x7 < (x5.length : Int) then (if 0 ≤ x7 then ((span_Valid.f ((rd_T25 x5 x7).f0) ((rd_T25 x5 x7).f1)).bind fun t222 => (if t222 = true then (if x7 > 0 then (if 0 ≤ (wrap64 (x7 - 1)) then (if (wrap64 (x7 - 1)) < (x5.length : Int) then (if ((rd_T25 x5 x7).f0) ≤ ((rd_T25 x5 (wrap64 (x7 - 1))).f1) then (some false) else (signalbenchlaw06_SpanApart.l0 k x5 x6 (wrap64 (x7 + 1)) x214000 x214001)) else (none)) else (none)) else (signalbenchlaw06_SpanApart.l0 k x5 x6 (wrap64 (x7 + 1)) x214000 x214001)) else (some false))) else (none)) else (signalbenchlaw06_SpanApart.l1 k x6 0 x214000 x214001)
def signalbenchlaw06_SpanApart.l1 : Nat → List (S25) → Int → Int → Int → Option (Bool)
 | 0, _, _, _, _ => none
 | k + 1, x6, x8, x214000, x214001 => if x8 < (x6.length : Int) then (if 0 ≤ x8 then ((span_Valid.f ((rd_T25 x6 x8).f0) ((rd_T25 x6 x8).f1)).bind fun t226 => (if t226 = true then (if x8 > 0 then (if 0 ≤ (wrap64 (x8 - 1)) then (if (wrap64 (x8 - 1)) < (x6.length : Int) then (if ((rd_T25 x6 x8).f0) ≤ ((rd_T25 x6 (wrap64 (x8 - 1))).f1) then (some false) else (if ((rd_T25 x6 x8).f0) < x214000 then (some false) else (if ((rd_T25 x6 x8).f1) > x214001 then (some false) else (signalbenchlaw06_SpanApart.l1 k x6 (wrap64 (x8 + 1)) x214000 x214001)))) else (none)) else (none)) else (if ((rd_T25 x6 x8).f0) < x214000 then (some false) else (if ((rd_T25 x6 x8).f1) > x214001 then (some false) else (signalbenchlaw06_SpanApart.l1 k x6 (wrap64 (x8 + 1)) x214000 x214001)))) else (some false))) else (none)) else (some true)
end
def signalbenchlaw06_SpanApart.f (k : Nat) (l0 : List (S25)) (a1_0 : Int) (a1_1 : Int) : Option (Bool) := (signalbenchlaw06_lives.f).bind fun t214 => (if t214 = true then (if (l0.length : Int) > 200 then (some true) else ((span_Join.f l0).bind fun t215 => ((span_Gaps.f k l0 a1_0 a1_1).bind fun t218 => (signalbenchlaw06_SpanApart.l0 k t215 t218 0 a1_0 a1_1)))) else (some false))
theorem signalbenchlaw06_SpanApart.mono_l : ∀ k, (∀ y0 y1 y2 y3 y4, LeO (signalbenchlaw06_SpanApart.l0 k y0 y1 y2 y3 y4) (signalbenchlaw06_SpanApart.l0 (k + 1) y0 y1 y2 y3 y4)) ∧ (∀ y0 y1 y2 y3, LeO (signalbenchlaw06_SpanApart.l1 k y0 y1 y2 y3) (signalbenchlaw06_SpanApart.l1 (k + 1) y0 y1 y2 y3))
 | 0 => ⟨fun _ _ _ _ _ r h => by simp [signalbenchlaw06_SpanApart.l0] at h, fun _ _ _ _ r h => by simp [signalbenchlaw06_SpanApart.l1] at h⟩
 | k + 1 => by
  obtain ⟨ih0, ih1⟩ := signalbenchlaw06_SpanApart.mono_l k
  refine ⟨?_, ?_⟩
  ·
   intro y0 y1 y2 y3 y4
   unfold signalbenchlaw06_SpanApart.l0
   repeat' first
   | (with_reducible exact ih0 _ _ _ _ _)
   | (with_reducible exact ih1 _ _ _ _)
   | (with_reducible exact span_Gaps.mono _ _ _ _)
   | (with_reducible exact LeO.refl _)
   | (with_reducible exact LeO.none _)
   | (with_reducible refine LeO.ite ?_ ?_)
   | (with_reducible refine LeO.bind ?_ (fun _ => ?_))
   | exact ih0 _ _ _ _ _
   | exact ih1 _ _ _ _
   | exact span_Gaps.mono _ _ _ _
   | exact LeO.none _
   | refine LeO.ite ?_ ?_
   | refine LeO.bind ?_ (fun _ => ?_)
  ·
   intro y0 y1 y2 y3
   unfold signalbenchlaw06_SpanApart.l1
   repeat' first
   | (with_reducible exact ih0 _ _ _ _ _)
   | (with_reducible exact ih1 _ _ _ _)
   | (with_reducible exact span_Gaps.mono _ _ _ _)
   | (with_reducible exact LeO.refl _)
   | (with_reducible exact LeO.none _)
   | (with_reducible refine LeO.ite ?_ ?_)
   | (with_reducible refine LeO.bind ?_ (fun _ => ?_))
   | exact ih0 _ _ _ _ _
   | exact ih1 _ _ _ _
   | exact span_Gaps.mono _ _ _ _
   | exact LeO.none _
   | refine LeO.ite ?_ ?_
   | refine LeO.bind ?_ (fun _ => ?_)
theorem signalbenchlaw06_SpanApart.mono : ∀ a0 a1 a2 k, LeO (signalbenchlaw06_SpanApart.f k a0 a1 a2) (signalbenchlaw06_SpanApart.f (k + 1) a0 a1 a2) := by
 intro a0 a1 a2 k
 obtain ⟨ih0, ih1⟩ := signalbenchlaw06_SpanApart.mono_l k
 unfold signalbenchlaw06_SpanApart.f
 repeat' first
   | (with_reducible exact ih0 _ _ _ _ _)
   | (with_reducible exact ih1 _ _ _ _)
   | (with_reducible exact span_Gaps.mono _ _ _ _)
   | (with_reducible exact LeO.refl _)
   | (with_reducible exact LeO.none _)
   | (with_reducible refine LeO.ite ?_ ?_)
   | (with_reducible refine LeO.bind ?_ (fun _ => ?_))
   | exact ih0 _ _ _ _ _
   | exact ih1 _ _ _ _
   | exact span_Gaps.mono _ _ _ _
   | exact LeO.none _
   | refine LeO.ite ?_ ?_
   | refine LeO.bind ?_ (fun _ => ?_)
def signalbenchlaw06_SpanApart.T9 : Bool × List (List Nat × List Nat) := (true, [([], []), ([], []), ([0, 1], [0, 1]), ([2], [2]), ([3], [3]), ([4], [4]), ([5, 4], [5]), ([6], [6]), ([7, 6], [6, 7]), ([8, 6, 6], [6, 8]), ([9], [9]), ([9], [9]), ([10, 11, 9], [9, 10, 11]), ([12, 9], [9, 12]), ([13, 9], [9, 13]), ([9], [9]), ([9], [9]), ([16, 9], [9, 16]), ([15, 17, 9], [9, 15, 17]), ([18, 9], [9, 18]), ([19, 9], [9, 19]), ([14, 20, 9], [9, 14, 20]), ([9, 21, 6], [6, 9, 21]), ([6, 22], [6, 22])])
def signalbenchlaw06_SpanApart.B9 : List Nat := [0, 0, 3, 7, 15, 31, 63, 127, 255, 511, 1023, 1023, 4095, 8191, 16383, 1023, 1023, 66559, 230399, 492543, 1016831, 2097151, 4194303, 8388607]
theorem signalbenchlaw06_SpanApart.tab9 : rtab .any (opsOf Try.f6 9) = signalbenchlaw06_SpanApart.T9 := by kernel_rfl
theorem signalbenchlaw06_SpanApart.bits9 : waitsOk signalbenchlaw06_SpanApart.T9.2 signalbenchlaw06_SpanApart.B9 = true := by kernel_rfl
def signalbenchlaw06_SpanApart.T14 : Bool × List (List Nat × List Nat) := (true, [([], []), ([], []), ([0, 1], [0, 1]), ([2], [2]), ([3], [3]), ([4], [4]), ([5, 4], [5]), ([6], [6]), ([7, 6], [6, 7]), ([8, 6, 6], [6, 8]), ([9], [9]), ([9], [9]), ([10, 11, 9], [9, 10, 11]), ([12, 9], [9, 12]), ([13, 9], [9, 13]), ([9], [9]), ([9], [9]), ([16, 9], [9, 16]), ([15, 17, 9], [9, 15, 17]), ([18, 9], [9, 18]), ([19, 9], [9, 19]), ([14, 20, 9], [9, 14, 20]), ([9, 21, 6], [6, 9, 21]), ([6, 22], [6, 22]), ([23, 9], [23]), ([24], [24]), ([24], [24]), ([25, 26, 24], [24, 25, 26]), ([27, 24], [24, 27]), ([28, 24], [24, 28]), ([24], [24]), ([30, 24], [24, 30]), ([29, 31, 24], [24, 29, 31]), ([24, 32], [24, 32]), ([33, 24], [33]), ([34], [34]), ([34], [34]), ([35, 36, 34], [34, 35, 36]), ([37, 34], [34, 37]), ([38, 34], [34, 38]), ([34], [34]), ([40, 34], [34, 40]), ([39, 41, 34], [34, 39, 41]), ([34, 42], [34, 42])])
def signalbenchlaw06_SpanApart.B14 : List Nat := [0, 0, 3, 7, 15, 31, 63, 127, 255, 511, 1023, 1023, 4095, 8191, 16383, 1023, 1023, 66559, 230399, 492543, 1016831, 2097151, 4194303, 8388607, 16777215, 33554431, 33554431, 134217727, 268435455, 536870911, 33554431, 1107296255, 4294967295, 8589934591, 17179869183, 34359738367, 34359738367, 137438953471, 274877906943, 549755813887, 34359738367, 1133871366143, 4398046511103, 8796093022207]
theorem signalbenchlaw06_SpanApart.tab14 : rtab .any (opsOf Try.f6 14) = signalbenchlaw06_SpanApart.T14 := by kernel_rfl
theorem signalbenchlaw06_SpanApart.bits14 : waitsOk signalbenchlaw06_SpanApart.T14.2 signalbenchlaw06_SpanApart.B14 = true := by kernel_rfl
set_option maxHeartbeats 8000000 in
set_option maxRecDepth 100000 in
theorem signalbenchlaw06_SpanApart.calls (k : Nat) (A0 : Option Addr) (c0 : Nat) (l0 : List (S25)) (a1_0 : Int) (a1_1 : Int) (r : Bool) (w : World) (hr0 : Kd.C k25 w A0 l0.length l0) (hc0 : l0.length ≤ c0) (h : signalbenchlaw06_SpanApart.f k l0 a1_0 a1_1 = some r) :
  Calls Try.prog 6 #[.slice A0 l0.length c0, .agg #[.int .i64 a1_0, .int .i64 a1_1]] w fun e w' => e = .returned (.bool r) ∧ Below w.heap.size w w' := by
 have hu25 := Try.underlying25
 have HR0 := Aside0.mk hr0
 have HC0 := Aside0.mk hc0
 clear hr0 hc0
 have HB := Aside0.mk (Below.refl w.heap.size w)
 have H : ((signalbenchlaw06_lives.f).bind fun t214 => (if t214 = true then (if (l0.length : Int) > 200 then (some true) else ((span_Join.f l0).bind fun t215 => ((span_Gaps.f k l0 a1_0 a1_1).bind fun t218 => (signalbenchlaw06_SpanApart.l0 k t215 t218 0 a1_0 a1_1)))) else (some false))) = some r := h
 clear h
 replace H := Option.bind_eq_some_iff.mp H
 obtain ⟨t214, A30, H⟩ := H
 replace H : (if t214 = true then (if (l0.length : Int) > 200 then (some true) else ((span_Join.f l0).bind fun t215 => ((span_Gaps.f k l0 a1_0 a1_1).bind fun t218 => (signalbenchlaw06_SpanApart.l0 k t215 t218 0 a1_0 a1_1)))) else (some false)) = some r := H
 have A3 := Aside0.mk A30
 clear A30
 by_cases c4 : t214 = true
 ·
  subst c4
  have H1 : (if (l0.length : Int) > 200 then (some true) else ((span_Join.f l0).bind fun t215 => ((span_Gaps.f k l0 a1_0 a1_1).bind fun t218 => (signalbenchlaw06_SpanApart.l0 k t215 t218 0 a1_0 a1_1)))) = some r := by rw [if_pos rfl] at H; exact H
  clear H
  have H := H1
  clear H1
  by_cases c5 : (l0.length : Int) > 200
  ·
   rw [if_pos c5] at H
   have c5b0 : decide (200 < (l0.length : Int)) = true := decide_eq_true c5
   have c5b1 : decide (200 < l0.length) = true := decide_eq_true (by omega)
   clear c5
   obtain rfl := Option.some.inj H
   go_enter Try.func6, Try.ntmps6
   go_wp2_with (first | ((with_reducible refine gate_dst (N := 3) rfl ?_); refine box_event ?hg (N := 3) ?hd (cs := #[.int .i64 a1_0, .int .i64 a1_1]) (t := 25) ?hr ?_; (case hd => rfl); (case hg => rfl); (case hr => first | (go_simp; done) | (go_simp; rfl)); intro gb213 hg w6 hbox hb; have n0_ := Aside0.mk (below_step (bs HB.out) hb); have n1_ := Aside0.mk (hbox); have n2_ := Aside0.mk ((by rw [hg]; exact (below_size (bs HB.out)) : w.heap.size ≤ gb213)); have n3_ := n2_; clear HB; have HB := n0_; have BK213 := n1_; have GW213 := n2_; have GE213 := n3_; clear n0_ n1_ n2_ n3_; clear hb hbox hg) | ((with_reducible refine gate_callee (f := 9) rfl ?_); refine goesL_ (some 9) rfl rfl Try.func9 (by kernel_rfl) rfl #[] rfl (by (try simp only [List.map_toArray, List.map_cons, List.map_nil]); first | done | rfl | (simp only [List.length_drop, List.length_take]; rfl)) ?_; (with_reducible refine (signalbenchlaw06_lives.calls  true _ A3.out).mono ?_); rintro e w7 ⟨rfl, hb⟩; refine ⟨_, rfl, ?_⟩; have n0_ := Aside0.mk (blk_below (bg BK213.out) hb); have n1_ := Aside0.mk (below_step (bs HB.out) hb); clear BK213; clear HB; have BK213 := n0_; have HB := n1_; clear n0_ n1_; (try clear hb); (try clear hb2); (try clear hk); (try clear hi)))
   go_ret
   exact ⟨by first | rfl | (simp [errW_none, errW_some] <;> rfl) | (simp [*, errW_none, errW_some] <;> rfl), bs HB.out⟩
  ·
   rw [if_neg c5] at H
   have c5b0 : decide (200 < (l0.length : Int)) = false := decide_eq_false c5
   have c5b1 : decide (200 < l0.length) = false := decide_eq_false (by omega)
   clear c5
   replace H := Option.bind_eq_some_iff.mp H
   obtain ⟨t215, A80, H⟩ := H
   replace H : ((span_Gaps.f k l0 a1_0 a1_1).bind fun t218 => (signalbenchlaw06_SpanApart.l0 k t215 t218 0 a1_0 a1_1)) = some r := H
   have A8 := Aside0.mk A80
   clear A80
   replace H := Option.bind_eq_some_iff.mp H
   obtain ⟨t218, A90, H⟩ := H
   replace H : (signalbenchlaw06_SpanApart.l0 k t215 t218 0 a1_0 a1_1) = some r := H
   have A9 := Aside0.mk A90
   clear A90
   have H' := Aside0.mk H
   clear H
   go_enter Try.func6, Try.ntmps6
   try go_wp2_with (first | ((with_reducible refine gate_dst (N := 3) rfl ?_); refine box_event ?hg (N := 3) ?hd (cs := #[.int .i64 a1_0, .int .i64 a1_1]) (t := 25) ?hr ?_; (case hd => rfl); (case hg => rfl); (case hr => first | (go_simp; done) | (go_simp; rfl)); intro gb213 hg w10 hbox hb; have n0_ := Aside0.mk (below_step (bs HB.out) hb); have n1_ := Aside0.mk (hbox); have n2_ := Aside0.mk ((by rw [hg]; exact (below_size (bs HB.out)) : w.heap.size ≤ gb213)); have n3_ := n2_; clear HB; have HB := n0_; have BK213 := n1_; have GW213 := n2_; have GE213 := n3_; clear n0_ n1_ n2_ n3_; clear hb hbox hg) | ((with_reducible refine gate_callee (f := 9) rfl ?_); refine goesL_ (some 9) rfl rfl Try.func9 (by kernel_rfl) rfl #[] rfl (by (try simp only [List.map_toArray, List.map_cons, List.map_nil]); first | done | rfl | (simp only [List.length_drop, List.length_take]; rfl)) ?_; (with_reducible refine (signalbenchlaw06_lives.calls  true _ A3.out).mono ?_); rintro e w11 ⟨rfl, hb⟩; refine ⟨_, rfl, ?_⟩; have n0_ := Aside0.mk (blk_below (bg BK213.out) hb); have n1_ := Aside0.mk (below_step (bs HB.out) hb); clear BK213; clear HB; have BK213 := n0_; have HB := n1_; clear n0_ n1_; (try clear hb); (try clear hb2); (try clear hk); (try clear hi)))
   have n0_ := Aside0.mk (blk_drew BK213.out)
   have n1_ := Aside0.mk (below_drew1 HB.out)
   clear BK213
   clear HB
   have BK213 := n0_
   have HB := n1_
   clear n0_ n1_
   refine start_ (n := 7) (S := fun w' => w'.cell? ⟨gb213, 0, none⟩ = some (.int .i64 a1_0) ∧ w'.cell? ⟨gb213, 1, none⟩ = some (.int .i64 a1_1)) (ds := []) (bsq 0 7) (by kernel_rfl) rfl rfl ⟨(blk_cell BK213.out 0).trans rfl, (blk_cell BK213.out 1).trans rfl⟩ (fun hHeld => ?_)
   generalize w11.drew = w12 at BK213 HB hHeld ⊢
   refine puk 0 14 (bsq 1 6) ?_
   refine puk 2 16 (bls [1, 1, 1, 4]) ?_
   refine tkk 3 17 (bls [1, 1, 2, 3]) hHeld ?_ (he := by rintro w' ⟨s0, s1⟩; go_simp; with_reducible rfl)
   refine one_ (i := 1) (N := some 15) (bsq 4 3) rfl rfl (by kernel_rfl) (by decide) (fun K hK => ?_)
   refine goes_ Try.func10 (by kernel_rfl) rfl #[.slice A0 l0.length c0] (by rfl) rfl rfl (by (try simp only [List.map_toArray, List.map_cons, List.map_nil]); first | done | rfl | (simp only [List.length_drop, List.length_take]; rfl)) ?_
   with_reducible refine (span_Join.calls _ _ l0 t215 _ ?side1 ?side2 A8.out).mono ?_
   (case side1 => repeat (first | exact (Kd.C_below HR0.out HB.out) | (with_reducible refine Kd.C_alloc ?_ _) | (with_reducible refine Kd.C_drewN ?_ _) | (with_reducible refine Kd.C_drew ?_)))
   (case side2 => exact HC0.out)
   rintro e w13 ⟨v216, rfl, ho0, hb⟩
   refine ⟨_, rfl, ?_⟩
   have n0_ := Aside0.mk (Kd.R_lower (Kd.R_newB ho0 (g := gb213) (o := .cells #[.int .i64 a1_0, .int .i64 a1_1] 25 (0, 0)) (bg BK213.out)) (below_size (bs HB.out)))
   have n1_ := Aside0.mk (blk_below (bg BK213.out) hb)
   have n2_ := Aside0.mk (below_step (bs HB.out) hb)
   clear BK213
   clear HB
   have HO217 := n0_
   have BK213 := n1_
   have HB := n2_
   clear n0_ n1_ n2_
   (try clear hb)
   (try clear hb2)
   (try clear hk)
   (try clear hi)
   (try clear ho0)
   refine hK.out _ _ ⟨(blk_cell BK213.out 0).trans rfl, (blk_cell BK213.out 1).trans rfl⟩ (fun hHeld => ?_)
   clear hK K
   refine norm_ (a' := ?_) ?_ ?_
   rotate_left
   ·
    show Act.put _ (some 15) _ = _
    simp only [Act.put, List.setIfInBounds_toArray, List.set_cons_zero, List.set_cons_succ, i64_w, i32_w]
    rfl
   refine one_ (i := 4) (N := some 18) (bsq 5 2) rfl rfl (by kernel_rfl) (by decide) (fun K hK => ?_)
   refine goes_ Try.func20 (by kernel_rfl) rfl #[.slice A0 l0.length c0, .agg #[.int .i64 a1_0, .int .i64 a1_1]] (by rfl) rfl rfl (by (try simp only [List.map_toArray, List.map_cons, List.map_nil]); first | done | rfl | (simp only [List.length_drop, List.length_take]; rfl)) ?_
   with_reducible refine (span_Gaps.calls k _ _ l0 a1_0 a1_1 t218 _ ?side1 ?side2 A9.out).mono ?_
   (case side1 => repeat (first | exact (Kd.C_below HR0.out HB.out) | (with_reducible refine Kd.C_alloc ?_ _) | (with_reducible refine Kd.C_drewN ?_ _) | (with_reducible refine Kd.C_drew ?_)))
   (case side2 => exact HC0.out)
   rintro e w14 ⟨v219, rfl, ho0, hb⟩
   refine ⟨_, rfl, ?_⟩
   have n0_ := Aside0.mk (Kd.R_elder' (rq HO217.out) (Kd.R_base ho0) hb)
   have n1_ := Aside0.mk (Kd.R_lower (Kd.R_newB (Kd.R_new' ho0 (Kd.R_lt (rq HO217.out))) (g := gb213) (o := .cells #[.int .i64 a1_0, .int .i64 a1_1] 25 (0, 0)) (bg BK213.out)) (below_size (bs HB.out)))
   have n2_ := Aside0.mk (blk_below (bg BK213.out) hb)
   have n3_ := Aside0.mk (below_step (bs HB.out) hb)
   clear HO217
   clear BK213
   clear HB
   have HO217 := n0_
   have HO220 := n1_
   have BK213 := n2_
   have HB := n3_
   clear n0_ n1_ n2_ n3_
   (try clear hb)
   (try clear hb2)
   (try clear hk)
   (try clear hi)
   (try clear ho0)
   refine hK.out _ _ ⟨(blk_cell BK213.out 0).trans rfl, (blk_cell BK213.out 1).trans rfl⟩ (fun hHeld => ?_)
   clear hK K
   refine norm_ (a' := ?_) ?_ ?_
   rotate_left
   ·
    show Act.put _ (some 18) _ = _
    simp only [Act.put, List.setIfInBounds_toArray, List.set_cons_zero, List.set_cons_succ, i64_w, i32_w]
    rfl
   refine puk 5 5 (bsq 6 1) ?_
   refine puk 6 6 (bsq 7 0) ?_
   refine done_ (by kernel_rfl) ?_
   try go_wp2
   go_loopg [7] k (fun kq v7 w' => ∃ (x7_1 : Int), v7 = .int .i64 x7_1 ∧ Aside0 (signalbenchlaw06_SpanApart.l0 kq t215 t218 x7_1 a1_0 a1_1 = some r) ∧ Aside0 (kq ≤ k) ∧ Aside0 (Kd.R k25 25 w' w.heap.size (fun k_ => some k_ ≠ (v219 : Value).ownBlock ∧ k_ ≠ gb213) v216 t215) ∧ Aside0 (Kd.R k25 25 w' w.heap.size (fun k_ => some k_ ≠ (v216 : Value).ownBlock ∧ k_ ≠ gb213) v219 t218) ∧ Aside0 (w'.heap[gb213]? = some (.cells #[.int .i64 a1_0, .int .i64 a1_1] 25 (0, 0))) ∧ Aside0 (Below w.heap.size w w'))
   case atStart => exact ⟨(0), (by first | rfl | (simp; done) | (simp [*]; done)), H', ⟨Nat.le_refl _⟩, ⟨by (with_reducible repeat (first | apply Kd.R_alloc | apply Kd.R_drewN | apply Kd.R_drew)); exact Kd.R_mono HO217.out (fun _ hk => ⟨hk.2, hk.1.2⟩)⟩, ⟨by (with_reducible repeat (first | apply Kd.R_alloc | apply Kd.R_drewN | apply Kd.R_drew)); exact Kd.R_mono HO220.out (fun _ hk => ⟨hk.1.2, hk.2⟩)⟩, ⟨bg BK213.out⟩, ⟨bs HB.out⟩⟩
   case round =>
    clear H'
    try clear c1
    try clear c2
    try clear p2
    try clear c4
    try clear c5
    try clear c5b0
    try clear c5b1
    try clear c6
    try clear c9
    try clear c10
    obtain ⟨x7_1, rfl, HA, HK1, HO_5, HO_6, BK213, HB⟩ := hrel
    cases gk with
    | zero => exact absurd HA.out (by simp [signalbenchlaw06_SpanApart.l0])
    | succ k1 =>
     have H := HA.out
     clear HA
     simp only [signalbenchlaw06_SpanApart.l0] at H
     by_cases c15 : x7_1 < (t215.length : Int)
     ·
      rw [if_pos c15] at H
      have c15b0 : decide (x7_1 < (t215.length : Int)) = true := decide_eq_true c15
      clear c15
      by_cases c16 : 0 ≤ x7_1
      ·
       rw [if_pos c16] at H
       have c16b0 : decide (0 ≤ x7_1) = true := decide_eq_true c16
       clear c16
       replace H := Option.bind_eq_some_iff.mp H
       obtain ⟨t222, A170, H⟩ := H
       replace H : (if t222 = true then (if x7_1 > 0 then (if 0 ≤ (wrap64 (x7_1 - 1)) then (if (wrap64 (x7_1 - 1)) < (t215.length : Int) then (if ((rd_T25 t215 x7_1).f0) ≤ ((rd_T25 t215 (wrap64 (x7_1 - 1))).f1) then (some false) else (signalbenchlaw06_SpanApart.l0 k1 t215 t218 (wrap64 (x7_1 + 1)) a1_0 a1_1)) else (none)) else (none)) else (signalbenchlaw06_SpanApart.l0 k1 t215 t218 (wrap64 (x7_1 + 1)) a1_0 a1_1)) else (some false)) = some r := H
       have A17 := Aside0.mk A170
       clear A170
       by_cases c18 : t222 = true
       ·
        subst c18
        have H1 : (if x7_1 > 0 then (if 0 ≤ (wrap64 (x7_1 - 1)) then (if (wrap64 (x7_1 - 1)) < (t215.length : Int) then (if ((rd_T25 t215 x7_1).f0) ≤ ((rd_T25 t215 (wrap64 (x7_1 - 1))).f1) then (some false) else (signalbenchlaw06_SpanApart.l0 k1 t215 t218 (wrap64 (x7_1 + 1)) a1_0 a1_1)) else (none)) else (none)) else (signalbenchlaw06_SpanApart.l0 k1 t215 t218 (wrap64 (x7_1 + 1)) a1_0 a1_1)) = some r := by rw [if_pos rfl] at H; exact H
        clear H
        have H := H1
        clear H1
        by_cases c19 : x7_1 > 0
        ·
         rw [if_pos c19] at H
         have c19b0 : decide (0 < x7_1) = true := decide_eq_true c19
         clear c19
         obtain ⟨ji20, hji20⟩ : ∃ j_ : Int, (wrap64 (x7_1 - 1)) = j_ := ⟨_, rfl⟩
         replace H : (if 0 ≤ (ji20) then (if (ji20) < (t215.length : Int) then (if ((rd_T25 t215 x7_1).f0) ≤ ((rd_T25 t215 (ji20)).f1) then (some false) else (signalbenchlaw06_SpanApart.l0 k1 t215 t218 (wrap64 (x7_1 + 1)) a1_0 a1_1)) else (none)) else (none)) = some r := by first | (rw [hji20] at H; exact H) | (simp only [hji20] at H ⊢; exact H)
         (try rw [hji20] at A17)
         have hji20w : (IntKind.i64.wrap (x7_1 - 1)) = ji20 := (i64_w _).trans hji20
         by_cases c21 : 0 ≤ (ji20)
         ·
          rw [if_pos c21] at H
          have c21b0 : decide (0 ≤ (ji20)) = true := decide_eq_true c21
          clear c21
          by_cases c22 : (ji20) < (t215.length : Int)
          ·
           rw [if_pos c22] at H
           have c22b0 : decide ((ji20) < (t215.length : Int)) = true := decide_eq_true c22
           clear c22
           by_cases c23 : ((rd_T25 t215 x7_1).f0) ≤ ((rd_T25 t215 (ji20)).f1)
           ·
            rw [if_pos c23] at H
            have c23b0 : decide (((rd_T25 t215 x7_1).f0) ≤ ((rd_T25 t215 (ji20)).f1)) = true := decide_eq_true c23
            clear c23
            obtain rfl := Option.some.inj H
            obtain ⟨Ao24, co24, eo24⟩ := Kd.R_slice HO_5.out
            subst eo24
            try go_wp2
            have n0_ := Aside0.mk (Kd.R_drew HO_5.out)
            have n1_ := Aside0.mk (Kd.R_drew HO_6.out)
            have n2_ := Aside0.mk (blk_drew BK213.out)
            have n3_ := Aside0.mk (below_drew1 HB.out)
            clear HO_5
            clear HO_6
            clear BK213
            clear HB
            have HO_5 := n0_
            have HO_6 := n1_
            have BK213 := n2_
            have HB := n3_
            clear n0_ n1_ n2_ n3_
            have p221 : 0 ≤ (x7_1 : Int) := of_decide_eq_true (by first | (with_reducible assumption) | assumption)
            have q221 : x7_1 < (t215.length : Int) := of_decide_eq_true (by first | (with_reducible assumption) | assumption)
            obtain ⟨ad221, e221, hx221_0, hx221_1⟩ := at_T25 (Kd.R_reads' HO_5.out).2.2 x7_1 p221 q221
            cases e221
            replace p221 := eq_true p221
            replace q221 := eq_true q221
            have p223 : 0 ≤ (x7_1 : Int) := of_decide_eq_true (by first | (with_reducible assumption) | assumption)
            have q223 : x7_1 < (t215.length : Int) := of_decide_eq_true (by first | (with_reducible assumption) | assumption)
            obtain ⟨ad223, e223, hx223_0, hx223_1⟩ := at_T25 (Kd.R_reads' HO_5.out).2.2 x7_1 p223 q223
            obtain rfl : ad221 = ad223 := (by injection e223)
            replace p223 := eq_true p223
            replace q223 := eq_true q223
            have p224 : 0 ≤ ((ji20) : Int) := of_decide_eq_true (by first | (with_reducible assumption) | assumption)
            have q224 : (ji20) < (t215.length : Int) := of_decide_eq_true (by first | (with_reducible assumption) | assumption)
            obtain ⟨ad224, e224, hx224_0, hx224_1⟩ := at_T25 (Kd.R_reads' HO_5.out).2.2 (ji20) p224 q224
            obtain rfl : ad221 = ad224 := (by injection e224)
            replace p224 := eq_true p224
            replace q224 := eq_true q224
            refine start_ (n := 24) (S := fun w' => w'.cell? (ad221.add ((x7_1).toNat * 2)) = some (.int .i64 ((rd_T25 t215 x7_1).f0)) ∧ w'.cell? ⟨(ad221.add ((x7_1).toNat * 2)).block, (ad221.add ((x7_1).toNat * 2)).off + 1, none⟩ = some (.int .i64 ((rd_T25 t215 x7_1).f1)) ∧ w'.cell? (ad221.add ((x7_1).toNat * 2)) = some (.int .i64 ((rd_T25 t215 x7_1).f0)) ∧ w'.cell? ⟨(ad221.add ((x7_1).toNat * 2)).block, (ad221.add ((x7_1).toNat * 2)).off + 1, none⟩ = some (.int .i64 ((rd_T25 t215 x7_1).f1)) ∧ w'.cell? (ad221.add (((ji20)).toNat * 2)) = some (.int .i64 ((rd_T25 t215 (ji20)).f0)) ∧ w'.cell? ⟨(ad221.add (((ji20)).toNat * 2)).block, (ad221.add (((ji20)).toNat * 2)).off + 1, none⟩ = some (.int .i64 ((rd_T25 t215 (ji20)).f1))) (ds := []) (bsq 0 24) (by kernel_rfl) rfl rfl ⟨hx221_0, hx221_1, hx223_0, hx223_1, hx224_0, hx224_1⟩ (fun hHeld => ?_); refine with_tabW signalbenchlaw06_SpanApart.tab9 signalbenchlaw06_SpanApart.bits9 (fun HT_ HW_ => ?_)
            generalize wr.drew = w25 at HO_5 HO_6 BK213 HB hx221_0 hx221_1 hx223_0 hx223_1 hx224_0 hx224_1 hHeld ⊢
            refine pu 0 25 (bsq 1 23) ?_
            refine pu 1 26 (bsq 2 22) ?_
            refine pu 2 27 (bsq 3 21) ?_
            refine tk 3 28 (bsq 4 20) hHeld ?_ (he := by rintro w' ⟨s0, s1, s2, s3, s4, s5⟩; go_simp; with_reducible rfl)
            refine one_ (i := 4) (N := some 29) (bsq 5 19) rfl rfl (one_of HT_.out (by kernel_rfl)) (by decide) (fun K hK => ?_)
            refine goes_ Try.func14 (by kernel_rfl) rfl #[.agg #[.int .i64 ((rd_T25 t215 x7_1).f0), .int .i64 ((rd_T25 t215 x7_1).f1)]] (by rfl) rfl rfl (by (try simp only [List.map_toArray, List.map_cons, List.map_nil]); first | done | rfl | (simp only [List.length_drop, List.length_take]; rfl)) ?_
            with_reducible refine (span_Valid.calls ((rd_T25 t215 x7_1).f0) ((rd_T25 t215 x7_1).f1) true _ A17.out).mono ?_
            rintro e w26 ⟨rfl, hb⟩
            have HS0_ := (hb.cell (World.block_lt_of_cell? _ _ (hHeld.1))).trans (hHeld.1)
            have HS1_ := (hb.cell (World.block_lt_of_cell? _ _ (hHeld.2.1))).trans (hHeld.2.1)
            have HS2_ := (hb.cell (World.block_lt_of_cell? _ _ (hHeld.2.2.1))).trans (hHeld.2.2.1)
            have HS3_ := (hb.cell (World.block_lt_of_cell? _ _ (hHeld.2.2.2.1))).trans (hHeld.2.2.2.1)
            have HS4_ := (hb.cell (World.block_lt_of_cell? _ _ (hHeld.2.2.2.2.1))).trans (hHeld.2.2.2.2.1)
            have HS5_ := (hb.cell (World.block_lt_of_cell? _ _ (hHeld.2.2.2.2.2))).trans (hHeld.2.2.2.2.2)
            refine ⟨_, rfl, ?_⟩
            have n0_ := Aside0.mk (Kd.R_below (rq HO_5.out) hb)
            have n1_ := Aside0.mk (Kd.R_below (rq HO_6.out) hb)
            have n2_ := Aside0.mk (blk_below (bg BK213.out) hb)
            have n3_ := Aside0.mk (below_step (bs HB.out) hb)
            clear HO_5
            clear HO_6
            clear BK213
            clear HB
            have HO_5 := n0_
            have HO_6 := n1_
            have BK213 := n2_
            have HB := n3_
            clear n0_ n1_ n2_ n3_
            (try clear hb)
            (try clear hb2)
            (try clear hk)
            (try clear hi)
            refine hK.out _ _ ⟨HS0_, HS1_, HS2_, HS3_, HS4_, HS5_⟩ (fun hHeld => ?_)
            clear hK K
            refine norm_ (a' := ?_) ?_ ?_
            rotate_left
            ·
             show Act.put _ (some 29) _ = _
             simp only [Act.put, List.setIfInBounds_toArray, List.set_cons_zero, List.set_cons_succ, i64_w, i32_w]
             rfl
            refine pu 5 30 (bsq 6 18) ?_
            refine pu 6 31 (bsq 7 17) ?_
            refine pu 7 32 (bsq 8 16) ?_
            refine pu 8 33 (bsq 9 15) ?_
            refine pu 9 34 (bsq 10 14) ?_
            refine pu 10 35 (bsq 11 13) ?_
            refine pu 11 36 (bsq 12 12) ?_
            refine pu 12 37 (bsq 13 11) ?_
            refine pu 13 38 (bsq 14 10) ?_
            refine pu 15 40 (bls [14, 1, 1, 8]) ?_
            refine pu 16 41 (bls [14, 1, 2, 7]) ?_
            refine pu 17 42 (bls [14, 1, 3, 6]) ?_
            refine pu 18 43 (bls [14, 1, 4, 5]) ?_
            refine pu 19 44 (bls [14, 1, 5, 4]) ?_
            refine tk 14 39 (bsq 20 4) hHeld ?_ (he := by rintro w' ⟨s0, s1, s2, s3, s4, s5⟩; go_simp; with_reducible rfl)
            refine tk 20 45 (bsq 21 3) hHeld ?_ (he := by rintro w' ⟨s0, s1, s2, s3, s4, s5⟩; go_simp; with_reducible rfl)
            refine pu 21 46 (bsq 22 2) ?_
            refine pu 22 47 (bsq 23 1) ?_
            refine pu 23 48 (bsq 24 0) ?_
            refine done_ (done_of HT_.out (by kernel_rfl)) ?_
            try go_wp2
            go_ret
            exact ⟨by first | rfl | (simp [errW_none, errW_some] <;> rfl) | (simp only [← hji20]; first | rfl | (simp [errW_none, errW_some] <;> rfl)) | (simp [*, errW_none, errW_some] <;> rfl), bs HB.out⟩
           ·
            rw [if_neg c23] at H
            have c23b0 : decide (((rd_T25 t215 x7_1).f0) ≤ ((rd_T25 t215 (ji20)).f1)) = false := decide_eq_false c23
            clear c23
            have H' := Aside0.mk H
            clear H
            obtain ⟨Ao27, co27, eo27⟩ := Kd.R_slice HO_5.out
            subst eo27
            try go_wp2
            have n0_ := Aside0.mk (Kd.R_drew HO_5.out)
            have n1_ := Aside0.mk (Kd.R_drew HO_6.out)
            have n2_ := Aside0.mk (blk_drew BK213.out)
            have n3_ := Aside0.mk (below_drew1 HB.out)
            clear HO_5
            clear HO_6
            clear BK213
            clear HB
            have HO_5 := n0_
            have HO_6 := n1_
            have BK213 := n2_
            have HB := n3_
            clear n0_ n1_ n2_ n3_
            have p221 : 0 ≤ (x7_1 : Int) := of_decide_eq_true (by first | (with_reducible assumption) | assumption)
            have q221 : x7_1 < (t215.length : Int) := of_decide_eq_true (by first | (with_reducible assumption) | assumption)
            obtain ⟨ad221, e221, hx221_0, hx221_1⟩ := at_T25 (Kd.R_reads' HO_5.out).2.2 x7_1 p221 q221
            cases e221
            replace p221 := eq_true p221
            replace q221 := eq_true q221
            have p223 : 0 ≤ (x7_1 : Int) := of_decide_eq_true (by first | (with_reducible assumption) | assumption)
            have q223 : x7_1 < (t215.length : Int) := of_decide_eq_true (by first | (with_reducible assumption) | assumption)
            obtain ⟨ad223, e223, hx223_0, hx223_1⟩ := at_T25 (Kd.R_reads' HO_5.out).2.2 x7_1 p223 q223
            obtain rfl : ad221 = ad223 := (by injection e223)
            replace p223 := eq_true p223
            replace q223 := eq_true q223
            have p224 : 0 ≤ ((ji20) : Int) := of_decide_eq_true (by first | (with_reducible assumption) | assumption)
            have q224 : (ji20) < (t215.length : Int) := of_decide_eq_true (by first | (with_reducible assumption) | assumption)
            obtain ⟨ad224, e224, hx224_0, hx224_1⟩ := at_T25 (Kd.R_reads' HO_5.out).2.2 (ji20) p224 q224
            obtain rfl : ad221 = ad224 := (by injection e224)
            replace p224 := eq_true p224
            replace q224 := eq_true q224
            refine start_ (n := 24) (S := fun w' => w'.cell? (ad221.add ((x7_1).toNat * 2)) = some (.int .i64 ((rd_T25 t215 x7_1).f0)) ∧ w'.cell? ⟨(ad221.add ((x7_1).toNat * 2)).block, (ad221.add ((x7_1).toNat * 2)).off + 1, none⟩ = some (.int .i64 ((rd_T25 t215 x7_1).f1)) ∧ w'.cell? (ad221.add ((x7_1).toNat * 2)) = some (.int .i64 ((rd_T25 t215 x7_1).f0)) ∧ w'.cell? ⟨(ad221.add ((x7_1).toNat * 2)).block, (ad221.add ((x7_1).toNat * 2)).off + 1, none⟩ = some (.int .i64 ((rd_T25 t215 x7_1).f1)) ∧ w'.cell? (ad221.add (((ji20)).toNat * 2)) = some (.int .i64 ((rd_T25 t215 (ji20)).f0)) ∧ w'.cell? ⟨(ad221.add (((ji20)).toNat * 2)).block, (ad221.add (((ji20)).toNat * 2)).off + 1, none⟩ = some (.int .i64 ((rd_T25 t215 (ji20)).f1))) (ds := []) (bsq 0 24) (by kernel_rfl) rfl rfl ⟨hx221_0, hx221_1, hx223_0, hx223_1, hx224_0, hx224_1⟩ (fun hHeld => ?_); refine with_tabW signalbenchlaw06_SpanApart.tab9 signalbenchlaw06_SpanApart.bits9 (fun HT_ HW_ => ?_)
            generalize wr.drew = w28 at HO_5 HO_6 BK213 HB hx221_0 hx221_1 hx223_0 hx223_1 hx224_0 hx224_1 hHeld ⊢
            refine pu 0 25 (bsq 1 23) ?_
            refine pu 1 26 (bsq 2 22) ?_
            refine pu 2 27 (bsq 3 21) ?_
            refine tk 3 28 (bsq 4 20) hHeld ?_ (he := by rintro w' ⟨s0, s1, s2, s3, s4, s5⟩; go_simp; with_reducible rfl)
            refine one_ (i := 4) (N := some 29) (bsq 5 19) rfl rfl (one_of HT_.out (by kernel_rfl)) (by decide) (fun K hK => ?_)
            refine goes_ Try.func14 (by kernel_rfl) rfl #[.agg #[.int .i64 ((rd_T25 t215 x7_1).f0), .int .i64 ((rd_T25 t215 x7_1).f1)]] (by rfl) rfl rfl (by (try simp only [List.map_toArray, List.map_cons, List.map_nil]); first | done | rfl | (simp only [List.length_drop, List.length_take]; rfl)) ?_
            with_reducible refine (span_Valid.calls ((rd_T25 t215 x7_1).f0) ((rd_T25 t215 x7_1).f1) true _ A17.out).mono ?_
            rintro e w29 ⟨rfl, hb⟩
            have HS0_ := (hb.cell (World.block_lt_of_cell? _ _ (hHeld.1))).trans (hHeld.1)
            have HS1_ := (hb.cell (World.block_lt_of_cell? _ _ (hHeld.2.1))).trans (hHeld.2.1)
            have HS2_ := (hb.cell (World.block_lt_of_cell? _ _ (hHeld.2.2.1))).trans (hHeld.2.2.1)
            have HS3_ := (hb.cell (World.block_lt_of_cell? _ _ (hHeld.2.2.2.1))).trans (hHeld.2.2.2.1)
            have HS4_ := (hb.cell (World.block_lt_of_cell? _ _ (hHeld.2.2.2.2.1))).trans (hHeld.2.2.2.2.1)
            have HS5_ := (hb.cell (World.block_lt_of_cell? _ _ (hHeld.2.2.2.2.2))).trans (hHeld.2.2.2.2.2)
            refine ⟨_, rfl, ?_⟩
            have n0_ := Aside0.mk (Kd.R_below (rq HO_5.out) hb)
            have n1_ := Aside0.mk (Kd.R_below (rq HO_6.out) hb)
            have n2_ := Aside0.mk (blk_below (bg BK213.out) hb)
            have n3_ := Aside0.mk (below_step (bs HB.out) hb)
            clear HO_5
            clear HO_6
            clear BK213
            clear HB
            have HO_5 := n0_
            have HO_6 := n1_
            have BK213 := n2_
            have HB := n3_
            clear n0_ n1_ n2_ n3_
            (try clear hb)
            (try clear hb2)
            (try clear hk)
            (try clear hi)
            refine hK.out _ _ ⟨HS0_, HS1_, HS2_, HS3_, HS4_, HS5_⟩ (fun hHeld => ?_)
            clear hK K
            refine norm_ (a' := ?_) ?_ ?_
            rotate_left
            ·
             show Act.put _ (some 29) _ = _
             simp only [Act.put, List.setIfInBounds_toArray, List.set_cons_zero, List.set_cons_succ, i64_w, i32_w]
             rfl
            refine pu 5 30 (bsq 6 18) ?_
            refine pu 6 31 (bsq 7 17) ?_
            refine pu 7 32 (bsq 8 16) ?_
            refine pu 8 33 (bsq 9 15) ?_
            refine pu 9 34 (bsq 10 14) ?_
            refine pu 10 35 (bsq 11 13) ?_
            refine pu 11 36 (bsq 12 12) ?_
            refine pu 12 37 (bsq 13 11) ?_
            refine pu 13 38 (bsq 14 10) ?_
            refine pu 15 40 (bls [14, 1, 1, 8]) ?_
            refine pu 16 41 (bls [14, 1, 2, 7]) ?_
            refine pu 17 42 (bls [14, 1, 3, 6]) ?_
            refine pu 18 43 (bls [14, 1, 4, 5]) ?_
            refine pu 19 44 (bls [14, 1, 5, 4]) ?_
            refine tk 14 39 (bsq 20 4) hHeld ?_ (he := by rintro w' ⟨s0, s1, s2, s3, s4, s5⟩; go_simp; with_reducible rfl)
            refine tk 20 45 (bsq 21 3) hHeld ?_ (he := by rintro w' ⟨s0, s1, s2, s3, s4, s5⟩; go_simp; with_reducible rfl)
            refine pu 21 46 (bsq 22 2) ?_
            refine pu 22 47 (bsq 23 1) ?_
            refine pu 23 48 (bsq 24 0) ?_
            refine done_ (done_of HT_.out (by kernel_rfl)) ?_
            try go_wp2
            go_roundg k1
            case measure => have := HK1.out; omega
            case rel => exact ⟨(wrap64 (x7_1 + 1)), (by first | rfl | (simp; done) | (simp [*]; done)), H', ⟨by have := HK1.out; omega⟩, ⟨by (with_reducible repeat (first | apply Kd.R_alloc | apply Kd.R_drewN | apply Kd.R_drew)); exact HO_5.out⟩, ⟨by (with_reducible repeat (first | apply Kd.R_alloc | apply Kd.R_drewN | apply Kd.R_drew)); exact HO_6.out⟩, ⟨bg BK213.out⟩, ⟨bs HB.out⟩⟩
          ·
           rw [if_neg c22] at H
           exact absurd H (by simp)
         ·
          rw [if_neg c21] at H
          exact absurd H (by simp)
        ·
         rw [if_neg c19] at H
         have c19b0 : decide (0 < x7_1) = false := decide_eq_false c19
         clear c19
         have H' := Aside0.mk H
         clear H
         obtain ⟨Ao30, co30, eo30⟩ := Kd.R_slice HO_5.out
         subst eo30
         try go_wp2
         have n0_ := Aside0.mk (Kd.R_drew HO_5.out)
         have n1_ := Aside0.mk (Kd.R_drew HO_6.out)
         have n2_ := Aside0.mk (blk_drew BK213.out)
         have n3_ := Aside0.mk (below_drew1 HB.out)
         clear HO_5
         clear HO_6
         clear BK213
         clear HB
         have HO_5 := n0_
         have HO_6 := n1_
         have BK213 := n2_
         have HB := n3_
         clear n0_ n1_ n2_ n3_
         have p221 : 0 ≤ (x7_1 : Int) := of_decide_eq_true (by first | (with_reducible assumption) | assumption)
         have q221 : x7_1 < (t215.length : Int) := of_decide_eq_true (by first | (with_reducible assumption) | assumption)
         obtain ⟨ad221, e221, hx221_0, hx221_1⟩ := at_T25 (Kd.R_reads' HO_5.out).2.2 x7_1 p221 q221
         cases e221
         replace p221 := eq_true p221
         replace q221 := eq_true q221
         refine start_ (n := 24) (S := fun w' => w'.cell? (ad221.add ((x7_1).toNat * 2)) = some (.int .i64 ((rd_T25 t215 x7_1).f0)) ∧ w'.cell? ⟨(ad221.add ((x7_1).toNat * 2)).block, (ad221.add ((x7_1).toNat * 2)).off + 1, none⟩ = some (.int .i64 ((rd_T25 t215 x7_1).f1))) (ds := []) (bsq 0 24) (by kernel_rfl) rfl rfl ⟨hx221_0, hx221_1⟩ (fun hHeld => ?_); refine with_tabW signalbenchlaw06_SpanApart.tab9 signalbenchlaw06_SpanApart.bits9 (fun HT_ HW_ => ?_)
         generalize wr.drew = w31 at HO_5 HO_6 BK213 HB hx221_0 hx221_1 hHeld ⊢
         refine pu 0 25 (bsq 1 23) ?_
         refine pu 1 26 (bsq 2 22) ?_
         refine pu 2 27 (bsq 3 21) ?_
         refine tk 3 28 (bsq 4 20) hHeld ?_ (he := by rintro w' ⟨s0, s1⟩; go_simp; with_reducible rfl)
         refine one_ (i := 4) (N := some 29) (bsq 5 19) rfl rfl (one_of HT_.out (by kernel_rfl)) (by decide) (fun K hK => ?_)
         refine goes_ Try.func14 (by kernel_rfl) rfl #[.agg #[.int .i64 ((rd_T25 t215 x7_1).f0), .int .i64 ((rd_T25 t215 x7_1).f1)]] (by rfl) rfl rfl (by (try simp only [List.map_toArray, List.map_cons, List.map_nil]); first | done | rfl | (simp only [List.length_drop, List.length_take]; rfl)) ?_
         with_reducible refine (span_Valid.calls ((rd_T25 t215 x7_1).f0) ((rd_T25 t215 x7_1).f1) true _ A17.out).mono ?_
         rintro e w32 ⟨rfl, hb⟩
         have HS0_ := (hb.cell (World.block_lt_of_cell? _ _ (hHeld.1))).trans (hHeld.1)
         have HS1_ := (hb.cell (World.block_lt_of_cell? _ _ (hHeld.2))).trans (hHeld.2)
         refine ⟨_, rfl, ?_⟩
         have n0_ := Aside0.mk (Kd.R_below (rq HO_5.out) hb)
         have n1_ := Aside0.mk (Kd.R_below (rq HO_6.out) hb)
         have n2_ := Aside0.mk (blk_below (bg BK213.out) hb)
         have n3_ := Aside0.mk (below_step (bs HB.out) hb)
         clear HO_5
         clear HO_6
         clear BK213
         clear HB
         have HO_5 := n0_
         have HO_6 := n1_
         have BK213 := n2_
         have HB := n3_
         clear n0_ n1_ n2_ n3_
         (try clear hb)
         (try clear hb2)
         (try clear hk)
         (try clear hi)
         refine hK.out _ _ ⟨HS0_, HS1_⟩ (fun hHeld => ?_)
         clear hK K
         refine norm_ (a' := ?_) ?_ ?_
         rotate_left
         ·
          show Act.put _ (some 29) _ = _
          simp only [Act.put, List.setIfInBounds_toArray, List.set_cons_zero, List.set_cons_succ, i64_w, i32_w]
          rfl
         refine pu 5 30 (bsq 6 18) ?_
         refine pu 6 31 (bsq 7 17) ?_
         refine pu 7 32 (bsq 8 16) ?_
         refine pu 8 33 (bsq 9 15) ?_
         refine pu 9 34 (bsq 10 14) ?_
         refine un 10 35 (bsq 11 13) ?_
         refine un 11 36 (bsq 12 12) ?_
         refine un 12 37 (bsq 13 11) ?_
         refine un 13 38 (bsq 14 10) ?_
         refine un 14 39 (bsq 15 9) ?_
         refine un 15 40 (bsq 16 8) ?_
         refine un 16 41 (bsq 17 7) ?_
         refine un 17 42 (bsq 18 6) ?_
         refine un 18 43 (bsq 19 5) ?_
         refine un 19 44 (bsq 20 4) ?_
         refine un 20 45 (bsq 21 3) ?_
         refine un 21 46 (bsq 22 2) ?_
         refine pu 22 47 (bsq 23 1) ?_
         refine pu 23 48 (bsq 24 0) ?_
         refine done_ (done_of HT_.out (by kernel_rfl)) ?_
         try go_wp2
         go_roundg k1
         case measure => have := HK1.out; omega
         case rel => exact ⟨(wrap64 (x7_1 + 1)), (by first | rfl | (simp; done) | (simp [*]; done)), H', ⟨by have := HK1.out; omega⟩, ⟨by (with_reducible repeat (first | apply Kd.R_alloc | apply Kd.R_drewN | apply Kd.R_drew)); exact HO_5.out⟩, ⟨by (with_reducible repeat (first | apply Kd.R_alloc | apply Kd.R_drewN | apply Kd.R_drew)); exact HO_6.out⟩, ⟨bg BK213.out⟩, ⟨bs HB.out⟩⟩
       ·
        replace c18 := Bool.eq_false_iff.mpr c18
        subst c18
        have H1 : (some false) = some r := by rw [if_neg (show ¬ (false = true) by decide)] at H; exact H
        clear H
        have H := H1
        clear H1
        obtain rfl := Option.some.inj H
        obtain ⟨Ao33, co33, eo33⟩ := Kd.R_slice HO_5.out
        subst eo33
        try go_wp2
        have n0_ := Aside0.mk (Kd.R_drew HO_5.out)
        have n1_ := Aside0.mk (Kd.R_drew HO_6.out)
        have n2_ := Aside0.mk (blk_drew BK213.out)
        have n3_ := Aside0.mk (below_drew1 HB.out)
        clear HO_5
        clear HO_6
        clear BK213
        clear HB
        have HO_5 := n0_
        have HO_6 := n1_
        have BK213 := n2_
        have HB := n3_
        clear n0_ n1_ n2_ n3_
        have p221 : 0 ≤ (x7_1 : Int) := of_decide_eq_true (by first | (with_reducible assumption) | assumption)
        have q221 : x7_1 < (t215.length : Int) := of_decide_eq_true (by first | (with_reducible assumption) | assumption)
        obtain ⟨ad221, e221, hx221_0, hx221_1⟩ := at_T25 (Kd.R_reads' HO_5.out).2.2 x7_1 p221 q221
        cases e221
        replace p221 := eq_true p221
        replace q221 := eq_true q221
        refine start_ (n := 24) (S := fun w' => w'.cell? (ad221.add ((x7_1).toNat * 2)) = some (.int .i64 ((rd_T25 t215 x7_1).f0)) ∧ w'.cell? ⟨(ad221.add ((x7_1).toNat * 2)).block, (ad221.add ((x7_1).toNat * 2)).off + 1, none⟩ = some (.int .i64 ((rd_T25 t215 x7_1).f1))) (ds := []) (bsq 0 24) (by kernel_rfl) rfl rfl ⟨hx221_0, hx221_1⟩ (fun hHeld => ?_); refine with_tabW signalbenchlaw06_SpanApart.tab9 signalbenchlaw06_SpanApart.bits9 (fun HT_ HW_ => ?_)
        generalize wr.drew = w34 at HO_5 HO_6 BK213 HB hx221_0 hx221_1 hHeld ⊢
        refine pu 0 25 (bsq 1 23) ?_
        refine pu 1 26 (bsq 2 22) ?_
        refine pu 2 27 (bsq 3 21) ?_
        refine tk 3 28 (bsq 4 20) hHeld ?_ (he := by rintro w' ⟨s0, s1⟩; go_simp; with_reducible rfl)
        refine one_ (i := 4) (N := some 29) (bsq 5 19) rfl rfl (one_of HT_.out (by kernel_rfl)) (by decide) (fun K hK => ?_)
        refine goes_ Try.func14 (by kernel_rfl) rfl #[.agg #[.int .i64 ((rd_T25 t215 x7_1).f0), .int .i64 ((rd_T25 t215 x7_1).f1)]] (by rfl) rfl rfl (by (try simp only [List.map_toArray, List.map_cons, List.map_nil]); first | done | rfl | (simp only [List.length_drop, List.length_take]; rfl)) ?_
        with_reducible refine (span_Valid.calls ((rd_T25 t215 x7_1).f0) ((rd_T25 t215 x7_1).f1) false _ A17.out).mono ?_
        rintro e w35 ⟨rfl, hb⟩
        have HS0_ := (hb.cell (World.block_lt_of_cell? _ _ (hHeld.1))).trans (hHeld.1)
        have HS1_ := (hb.cell (World.block_lt_of_cell? _ _ (hHeld.2))).trans (hHeld.2)
        refine ⟨_, rfl, ?_⟩
        have n0_ := Aside0.mk (Kd.R_below (rq HO_5.out) hb)
        have n1_ := Aside0.mk (Kd.R_below (rq HO_6.out) hb)
        have n2_ := Aside0.mk (blk_below (bg BK213.out) hb)
        have n3_ := Aside0.mk (below_step (bs HB.out) hb)
        clear HO_5
        clear HO_6
        clear BK213
        clear HB
        have HO_5 := n0_
        have HO_6 := n1_
        have BK213 := n2_
        have HB := n3_
        clear n0_ n1_ n2_ n3_
        (try clear hb)
        (try clear hb2)
        (try clear hk)
        (try clear hi)
        refine hK.out _ _ ⟨HS0_, HS1_⟩ (fun hHeld => ?_)
        clear hK K
        refine norm_ (a' := ?_) ?_ ?_
        rotate_left
        ·
         show Act.put _ (some 29) _ = _
         simp only [Act.put, List.setIfInBounds_toArray, List.set_cons_zero, List.set_cons_succ, i64_w, i32_w]
         rfl
        refine pu 5 30 (bsq 6 18) ?_
        refine pu 6 31 (bsq 7 17) ?_
        refine un 7 32 (bsq 8 16) ?_
        refine un 8 33 (bsq 9 15) ?_
        refine un 9 34 (bsq 10 14) ?_
        refine un 10 35 (bsq 11 13) ?_
        refine un 11 36 (bsq 12 12) ?_
        refine un 12 37 (bsq 13 11) ?_
        refine un 13 38 (bsq 14 10) ?_
        refine un 14 39 (bsq 15 9) ?_
        refine un 15 40 (bsq 16 8) ?_
        refine un 16 41 (bsq 17 7) ?_
        refine un 17 42 (bsq 18 6) ?_
        refine un 18 43 (bsq 19 5) ?_
        refine un 19 44 (bsq 20 4) ?_
        refine un 20 45 (bsq 21 3) ?_
        refine un 21 46 (bsq 22 2) ?_
        refine un 22 47 (bsq 23 1) ?_
        refine pu 23 48 (bsq 24 0) ?_
        refine done_ (done_of HT_.out (by kernel_rfl)) ?_
        try go_wp2
        go_ret
        exact ⟨by first | rfl | (simp [errW_none, errW_some] <;> rfl) | (simp [*, errW_none, errW_some] <;> rfl), bs HB.out⟩
      ·
       rw [if_neg c16] at H
       exact absurd H (by simp)
     ·
      rw [if_neg c15] at H
      have c15b0 : decide (x7_1 < (t215.length : Int)) = false := decide_eq_false c15
      clear c15
      have H' := Aside0.mk H
      clear H
      obtain ⟨Ao36, co36, eo36⟩ := Kd.R_slice HO_5.out
      subst eo36
      go_wp2
      go_loopg [8] k1 (fun kq v8 w' => ∃ (x8_2 : Int), v8 = .int .i64 x8_2 ∧ Aside0 (signalbenchlaw06_SpanApart.l1 kq t218 x8_2 a1_0 a1_1 = some r) ∧ Aside0 (kq ≤ k1) ∧ Aside0 (Kd.R k25 25 w' w.heap.size (fun k_ => k_ ≠ gb213) v219 t218) ∧ Aside0 (w'.heap[gb213]? = some (.cells #[.int .i64 a1_0, .int .i64 a1_1] 25 (0, 0))) ∧ Aside0 (Below w.heap.size w w'))
      case atStart => exact ⟨(0), (by first | rfl | (simp; done) | (simp [*]; done)), H', ⟨Nat.le_refl _⟩, ⟨by (with_reducible repeat (first | apply Kd.R_alloc | apply Kd.R_drewN | apply Kd.R_drew)); exact Kd.R_mono HO_6.out (fun _ hk => hk.2)⟩, ⟨bg BK213.out⟩, ⟨bs HB.out⟩⟩
      case round =>
       clear H'
       try clear c1
       try clear c2
       try clear p2
       try clear q2
       try clear hx2
       try clear p6
       try clear c14
       try clear c15
       try clear c15b0
       try clear c16
       try clear c18
       try clear c19
       try clear c19b0
       try clear c21
       try clear c22
       try clear p22
       try clear q22
       try clear hx22
       try clear hx221_0
       try clear hx221_1
       try clear p221
       try clear q221
       obtain ⟨x8_2, rfl, HA, HK2, HO_6, BK213, HB⟩ := hrel
       cases gk with
       | zero => exact absurd HA.out (by simp [signalbenchlaw06_SpanApart.l1])
       | succ k2 =>
        have H := HA.out
        clear HA
        simp only [signalbenchlaw06_SpanApart.l1] at H
        by_cases c37 : x8_2 < (t218.length : Int)
        ·
         rw [if_pos c37] at H
         have c37b0 : decide (x8_2 < (t218.length : Int)) = true := decide_eq_true c37
         clear c37
         by_cases c38 : 0 ≤ x8_2
         ·
          rw [if_pos c38] at H
          have c38b0 : decide (0 ≤ x8_2) = true := decide_eq_true c38
          clear c38
          replace H := Option.bind_eq_some_iff.mp H
          obtain ⟨t226, A390, H⟩ := H
          replace H : (if t226 = true then (if x8_2 > 0 then (if 0 ≤ (wrap64 (x8_2 - 1)) then (if (wrap64 (x8_2 - 1)) < (t218.length : Int) then (if ((rd_T25 t218 x8_2).f0) ≤ ((rd_T25 t218 (wrap64 (x8_2 - 1))).f1) then (some false) else (if ((rd_T25 t218 x8_2).f0) < a1_0 then (some false) else (if ((rd_T25 t218 x8_2).f1) > a1_1 then (some false) else (signalbenchlaw06_SpanApart.l1 k2 t218 (wrap64 (x8_2 + 1)) a1_0 a1_1)))) else (none)) else (none)) else (if ((rd_T25 t218 x8_2).f0) < a1_0 then (some false) else (if ((rd_T25 t218 x8_2).f1) > a1_1 then (some false) else (signalbenchlaw06_SpanApart.l1 k2 t218 (wrap64 (x8_2 + 1)) a1_0 a1_1)))) else (some false)) = some r := H
          have A39 := Aside0.mk A390
          clear A390
          by_cases c40 : t226 = true
          ·
           subst c40
           have H1 : (if x8_2 > 0 then (if 0 ≤ (wrap64 (x8_2 - 1)) then (if (wrap64 (x8_2 - 1)) < (t218.length : Int) then (if ((rd_T25 t218 x8_2).f0) ≤ ((rd_T25 t218 (wrap64 (x8_2 - 1))).f1) then (some false) else (if ((rd_T25 t218 x8_2).f0) < a1_0 then (some false) else (if ((rd_T25 t218 x8_2).f1) > a1_1 then (some false) else (signalbenchlaw06_SpanApart.l1 k2 t218 (wrap64 (x8_2 + 1)) a1_0 a1_1)))) else (none)) else (none)) else (if ((rd_T25 t218 x8_2).f0) < a1_0 then (some false) else (if ((rd_T25 t218 x8_2).f1) > a1_1 then (some false) else (signalbenchlaw06_SpanApart.l1 k2 t218 (wrap64 (x8_2 + 1)) a1_0 a1_1)))) = some r := by rw [if_pos rfl] at H; exact H
           clear H
           have H := H1
           clear H1
           by_cases c41 : x8_2 > 0
           ·
            rw [if_pos c41] at H
            have c41b0 : decide (0 < x8_2) = true := decide_eq_true c41
            clear c41
            obtain ⟨ji42, hji42⟩ : ∃ j_ : Int, (wrap64 (x8_2 - 1)) = j_ := ⟨_, rfl⟩
            replace H : (if 0 ≤ (ji42) then (if (ji42) < (t218.length : Int) then (if ((rd_T25 t218 x8_2).f0) ≤ ((rd_T25 t218 (ji42)).f1) then (some false) else (if ((rd_T25 t218 x8_2).f0) < a1_0 then (some false) else (if ((rd_T25 t218 x8_2).f1) > a1_1 then (some false) else (signalbenchlaw06_SpanApart.l1 k2 t218 (wrap64 (x8_2 + 1)) a1_0 a1_1)))) else (none)) else (none)) = some r := by first | (rw [hji42] at H; exact H) | (simp only [hji42] at H ⊢; exact H)
            (try rw [hji42] at A39)
            have hji42w : (IntKind.i64.wrap (x8_2 - 1)) = ji42 := (i64_w _).trans hji42
            by_cases c43 : 0 ≤ (ji42)
            ·
             rw [if_pos c43] at H
             have c43b0 : decide (0 ≤ (ji42)) = true := decide_eq_true c43
             clear c43
             by_cases c44 : (ji42) < (t218.length : Int)
             ·
              rw [if_pos c44] at H
              have c44b0 : decide ((ji42) < (t218.length : Int)) = true := decide_eq_true c44
              clear c44
              by_cases c45 : ((rd_T25 t218 x8_2).f0) ≤ ((rd_T25 t218 (ji42)).f1)
              ·
               rw [if_pos c45] at H
               have c45b0 : decide (((rd_T25 t218 x8_2).f0) ≤ ((rd_T25 t218 (ji42)).f1)) = true := decide_eq_true c45
               clear c45
               obtain rfl := Option.some.inj H
               obtain ⟨Ao46, co46, eo46⟩ := Kd.R_slice HO_6.out
               subst eo46
               try go_wp2
               have n0_ := Aside0.mk (Kd.R_drew HO_6.out)
               have n1_ := Aside0.mk (blk_drew BK213.out)
               have n2_ := Aside0.mk (below_drew1 HB.out)
               clear HO_6
               clear BK213
               clear HB
               have HO_6 := n0_
               have BK213 := n1_
               have HB := n2_
               clear n0_ n1_ n2_
               have p225 : 0 ≤ (x8_2 : Int) := of_decide_eq_true (by first | (with_reducible assumption) | assumption)
               have q225 : x8_2 < (t218.length : Int) := of_decide_eq_true (by first | (with_reducible assumption) | assumption)
               obtain ⟨ad225, e225, hx225_0, hx225_1⟩ := at_T25 (Kd.R_reads' HO_6.out).2.2 x8_2 p225 q225
               cases e225
               replace p225 := eq_true p225
               replace q225 := eq_true q225
               have p227 : 0 ≤ (x8_2 : Int) := of_decide_eq_true (by first | (with_reducible assumption) | assumption)
               have q227 : x8_2 < (t218.length : Int) := of_decide_eq_true (by first | (with_reducible assumption) | assumption)
               obtain ⟨ad227, e227, hx227_0, hx227_1⟩ := at_T25 (Kd.R_reads' HO_6.out).2.2 x8_2 p227 q227
               obtain rfl : ad225 = ad227 := (by injection e227)
               replace p227 := eq_true p227
               replace q227 := eq_true q227
               have p228 : 0 ≤ ((ji42) : Int) := of_decide_eq_true (by first | (with_reducible assumption) | assumption)
               have q228 : (ji42) < (t218.length : Int) := of_decide_eq_true (by first | (with_reducible assumption) | assumption)
               obtain ⟨ad228, e228, hx228_0, hx228_1⟩ := at_T25 (Kd.R_reads' HO_6.out).2.2 (ji42) p228 q228
               obtain rfl : ad225 = ad228 := (by injection e228)
               replace p228 := eq_true p228
               replace q228 := eq_true q228
               refine start_ (n := 44) (S := fun w' => w'.cell? (ad225.add ((x8_2).toNat * 2)) = some (.int .i64 ((rd_T25 t218 x8_2).f0)) ∧ w'.cell? ⟨(ad225.add ((x8_2).toNat * 2)).block, (ad225.add ((x8_2).toNat * 2)).off + 1, none⟩ = some (.int .i64 ((rd_T25 t218 x8_2).f1)) ∧ w'.cell? (ad225.add ((x8_2).toNat * 2)) = some (.int .i64 ((rd_T25 t218 x8_2).f0)) ∧ w'.cell? ⟨(ad225.add ((x8_2).toNat * 2)).block, (ad225.add ((x8_2).toNat * 2)).off + 1, none⟩ = some (.int .i64 ((rd_T25 t218 x8_2).f1)) ∧ w'.cell? (ad225.add (((ji42)).toNat * 2)) = some (.int .i64 ((rd_T25 t218 (ji42)).f0)) ∧ w'.cell? ⟨(ad225.add (((ji42)).toNat * 2)).block, (ad225.add (((ji42)).toNat * 2)).off + 1, none⟩ = some (.int .i64 ((rd_T25 t218 (ji42)).f1))) (ds := []) (bsq 0 44) (by kernel_rfl) rfl rfl ⟨hx225_0, hx225_1, hx227_0, hx227_1, hx228_0, hx228_1⟩ (fun hHeld => ?_); refine with_tabW signalbenchlaw06_SpanApart.tab14 signalbenchlaw06_SpanApart.bits14 (fun HT_ HW_ => ?_)
               generalize wr.drew = w47 at HO_6 BK213 HB hx225_0 hx225_1 hx227_0 hx227_1 hx228_0 hx228_1 hHeld ⊢
               refine pu 0 55 (bsq 1 43) ?_
               refine pu 1 56 (bsq 2 42) ?_
               refine pu 2 57 (bsq 3 41) ?_
               refine tk 3 58 (bsq 4 40) hHeld ?_ (he := by rintro w' ⟨s0, s1, s2, s3, s4, s5⟩; go_simp; with_reducible rfl)
               refine one_ (i := 4) (N := some 59) (bsq 5 39) rfl rfl (one_of HT_.out (by kernel_rfl)) (by decide) (fun K hK => ?_)
               refine goes_ Try.func14 (by kernel_rfl) rfl #[.agg #[.int .i64 ((rd_T25 t218 x8_2).f0), .int .i64 ((rd_T25 t218 x8_2).f1)]] (by rfl) rfl rfl (by (try simp only [List.map_toArray, List.map_cons, List.map_nil]); first | done | rfl | (simp only [List.length_drop, List.length_take]; rfl)) ?_
               with_reducible refine (span_Valid.calls ((rd_T25 t218 x8_2).f0) ((rd_T25 t218 x8_2).f1) true _ A39.out).mono ?_
               rintro e w48 ⟨rfl, hb⟩
               have HS0_ := (hb.cell (World.block_lt_of_cell? _ _ (hHeld.1))).trans (hHeld.1)
               have HS1_ := (hb.cell (World.block_lt_of_cell? _ _ (hHeld.2.1))).trans (hHeld.2.1)
               have HS2_ := (hb.cell (World.block_lt_of_cell? _ _ (hHeld.2.2.1))).trans (hHeld.2.2.1)
               have HS3_ := (hb.cell (World.block_lt_of_cell? _ _ (hHeld.2.2.2.1))).trans (hHeld.2.2.2.1)
               have HS4_ := (hb.cell (World.block_lt_of_cell? _ _ (hHeld.2.2.2.2.1))).trans (hHeld.2.2.2.2.1)
               have HS5_ := (hb.cell (World.block_lt_of_cell? _ _ (hHeld.2.2.2.2.2))).trans (hHeld.2.2.2.2.2)
               refine ⟨_, rfl, ?_⟩
               have n0_ := Aside0.mk (Kd.R_below (rq HO_6.out) hb)
               have n1_ := Aside0.mk (blk_below (bg BK213.out) hb)
               have n2_ := Aside0.mk (below_step (bs HB.out) hb)
               clear HO_6
               clear BK213
               clear HB
               have HO_6 := n0_
               have BK213 := n1_
               have HB := n2_
               clear n0_ n1_ n2_
               (try clear hb)
               (try clear hb2)
               (try clear hk)
               (try clear hi)
               refine hK.out _ _ ⟨HS0_, HS1_, HS2_, HS3_, HS4_, HS5_⟩ (fun hHeld => ?_)
               clear hK K
               refine norm_ (a' := ?_) ?_ ?_
               rotate_left
               ·
                show Act.put _ (some 59) _ = _
                simp only [Act.put, List.setIfInBounds_toArray, List.set_cons_zero, List.set_cons_succ, i64_w, i32_w]
                rfl
               refine pu 5 60 (bsq 6 38) ?_
               refine pu 6 61 (bsq 7 37) ?_
               refine pu 7 62 (bsq 8 36) ?_
               refine pu 8 63 (bsq 9 35) ?_
               refine pu 9 64 (bsq 10 34) ?_
               refine pu 10 65 (bsq 11 33) ?_
               refine pu 11 66 (bsq 12 32) ?_
               refine pu 12 67 (bsq 13 31) ?_
               refine pu 13 68 (bsq 14 30) ?_
               refine pu 15 70 (bls [14, 1, 1, 28]) ?_
               refine pu 16 71 (bls [14, 1, 2, 27]) ?_
               refine pu 17 72 (bls [14, 1, 3, 26]) ?_
               refine pu 18 73 (bls [14, 1, 4, 25]) ?_
               refine pu 19 74 (bls [14, 1, 5, 24]) ?_
               refine tk 14 69 (bsq 20 24) hHeld ?_ (he := by rintro w' ⟨s0, s1, s2, s3, s4, s5⟩; go_simp; with_reducible rfl)
               refine tk 20 75 (bsq 21 23) hHeld ?_ (he := by rintro w' ⟨s0, s1, s2, s3, s4, s5⟩; go_simp; with_reducible rfl)
               refine pu 21 76 (bsq 22 22) ?_
               refine pu 22 77 (bsq 23 21) ?_
               refine pu 23 78 (bsq 24 20) ?_
               refine pu 24 79 (bsq 25 19) ?_
               refine un 25 80 (bsq 26 18) ?_
               refine un 26 81 (bsq 27 17) ?_
               refine un 27 82 (bsq 28 16) ?_
               refine un 28 83 (bsq 29 15) ?_
               refine un 29 84 (bsq 30 14) ?_
               refine un 30 85 (bsq 31 13) ?_
               refine un 31 86 (bsq 32 12) ?_
               refine un 32 87 (bsq 33 11) ?_
               refine pu 33 88 (bsq 34 10) ?_
               refine pu 34 89 (bsq 35 9) ?_
               refine un 35 90 (bsq 36 8) ?_
               refine un 36 91 (bsq 37 7) ?_
               refine un 37 92 (bsq 38 6) ?_
               refine un 38 93 (bsq 39 5) ?_
               refine un 39 94 (bsq 40 4) ?_
               refine un 40 95 (bsq 41 3) ?_
               refine un 41 96 (bsq 42 2) ?_
               refine un 42 97 (bsq 43 1) ?_
               refine pu 43 98 (bsq 44 0) ?_
               refine done_ (done_of HT_.out (by kernel_rfl)) ?_
               try go_wp2
               go_ret
               exact ⟨by first | rfl | (simp [errW_none, errW_some] <;> rfl) | (simp only [← hji42]; first | rfl | (simp [errW_none, errW_some] <;> rfl)) | (simp [*, errW_none, errW_some] <;> rfl), bs HB.out⟩
              ·
               rw [if_neg c45] at H
               have c45b0 : decide (((rd_T25 t218 x8_2).f0) ≤ ((rd_T25 t218 (ji42)).f1)) = false := decide_eq_false c45
               clear c45
               by_cases c49 : ((rd_T25 t218 x8_2).f0) < a1_0
               ·
                rw [if_pos c49] at H
                have c49b0 : decide (((rd_T25 t218 x8_2).f0) < a1_0) = true := decide_eq_true c49
                clear c49
                obtain rfl := Option.some.inj H
                obtain ⟨Ao50, co50, eo50⟩ := Kd.R_slice HO_6.out
                subst eo50
                try go_wp2
                have n0_ := Aside0.mk (Kd.R_drew HO_6.out)
                have n1_ := Aside0.mk (blk_drew BK213.out)
                have n2_ := Aside0.mk (below_drew1 HB.out)
                clear HO_6
                clear BK213
                clear HB
                have HO_6 := n0_
                have BK213 := n1_
                have HB := n2_
                clear n0_ n1_ n2_
                have p225 : 0 ≤ (x8_2 : Int) := of_decide_eq_true (by first | (with_reducible assumption) | assumption)
                have q225 : x8_2 < (t218.length : Int) := of_decide_eq_true (by first | (with_reducible assumption) | assumption)
                obtain ⟨ad225, e225, hx225_0, hx225_1⟩ := at_T25 (Kd.R_reads' HO_6.out).2.2 x8_2 p225 q225
                cases e225
                replace p225 := eq_true p225
                replace q225 := eq_true q225
                have p227 : 0 ≤ (x8_2 : Int) := of_decide_eq_true (by first | (with_reducible assumption) | assumption)
                have q227 : x8_2 < (t218.length : Int) := of_decide_eq_true (by first | (with_reducible assumption) | assumption)
                obtain ⟨ad227, e227, hx227_0, hx227_1⟩ := at_T25 (Kd.R_reads' HO_6.out).2.2 x8_2 p227 q227
                obtain rfl : ad225 = ad227 := (by injection e227)
                replace p227 := eq_true p227
                replace q227 := eq_true q227
                have p228 : 0 ≤ ((ji42) : Int) := of_decide_eq_true (by first | (with_reducible assumption) | assumption)
                have q228 : (ji42) < (t218.length : Int) := of_decide_eq_true (by first | (with_reducible assumption) | assumption)
                obtain ⟨ad228, e228, hx228_0, hx228_1⟩ := at_T25 (Kd.R_reads' HO_6.out).2.2 (ji42) p228 q228
                obtain rfl : ad225 = ad228 := (by injection e228)
                replace p228 := eq_true p228
                replace q228 := eq_true q228
                have p229 : 0 ≤ (x8_2 : Int) := of_decide_eq_true (by first | (with_reducible assumption) | assumption)
                have q229 : x8_2 < (t218.length : Int) := of_decide_eq_true (by first | (with_reducible assumption) | assumption)
                obtain ⟨ad229, e229, hx229_0, hx229_1⟩ := at_T25 (Kd.R_reads' HO_6.out).2.2 x8_2 p229 q229
                obtain rfl : ad225 = ad229 := (by injection e229)
                replace p229 := eq_true p229
                replace q229 := eq_true q229
                refine start_ (n := 44) (S := fun w' => w'.cell? ⟨gb213, 0, none⟩ = some (.int .i64 a1_0) ∧ w'.cell? ⟨gb213, 1, none⟩ = some (.int .i64 a1_1) ∧ w'.cell? (ad225.add ((x8_2).toNat * 2)) = some (.int .i64 ((rd_T25 t218 x8_2).f0)) ∧ w'.cell? ⟨(ad225.add ((x8_2).toNat * 2)).block, (ad225.add ((x8_2).toNat * 2)).off + 1, none⟩ = some (.int .i64 ((rd_T25 t218 x8_2).f1)) ∧ w'.cell? (ad225.add ((x8_2).toNat * 2)) = some (.int .i64 ((rd_T25 t218 x8_2).f0)) ∧ w'.cell? ⟨(ad225.add ((x8_2).toNat * 2)).block, (ad225.add ((x8_2).toNat * 2)).off + 1, none⟩ = some (.int .i64 ((rd_T25 t218 x8_2).f1)) ∧ w'.cell? (ad225.add (((ji42)).toNat * 2)) = some (.int .i64 ((rd_T25 t218 (ji42)).f0)) ∧ w'.cell? ⟨(ad225.add (((ji42)).toNat * 2)).block, (ad225.add (((ji42)).toNat * 2)).off + 1, none⟩ = some (.int .i64 ((rd_T25 t218 (ji42)).f1)) ∧ w'.cell? (ad225.add ((x8_2).toNat * 2)) = some (.int .i64 ((rd_T25 t218 x8_2).f0)) ∧ w'.cell? ⟨(ad225.add ((x8_2).toNat * 2)).block, (ad225.add ((x8_2).toNat * 2)).off + 1, none⟩ = some (.int .i64 ((rd_T25 t218 x8_2).f1))) (ds := []) (bsq 0 44) (by kernel_rfl) rfl rfl ⟨(blk_cell BK213.out 0).trans rfl, (blk_cell BK213.out 1).trans rfl, hx225_0, hx225_1, hx227_0, hx227_1, hx228_0, hx228_1, hx229_0, hx229_1⟩ (fun hHeld => ?_); refine with_tabW signalbenchlaw06_SpanApart.tab14 signalbenchlaw06_SpanApart.bits14 (fun HT_ HW_ => ?_)
                generalize wr.drew = w51 at HO_6 BK213 HB hx225_0 hx225_1 hx227_0 hx227_1 hx228_0 hx228_1 hx229_0 hx229_1 hHeld ⊢
                refine pu 0 55 (bsq 1 43) ?_
                refine pu 1 56 (bsq 2 42) ?_
                refine pu 2 57 (bsq 3 41) ?_
                refine tk 3 58 (bsq 4 40) hHeld ?_ (he := by rintro w' ⟨s0, s1, s2, s3, s4, s5, s6, s7, s8, s9⟩; go_simp; with_reducible rfl)
                refine one_ (i := 4) (N := some 59) (bsq 5 39) rfl rfl (one_of HT_.out (by kernel_rfl)) (by decide) (fun K hK => ?_)
                refine goes_ Try.func14 (by kernel_rfl) rfl #[.agg #[.int .i64 ((rd_T25 t218 x8_2).f0), .int .i64 ((rd_T25 t218 x8_2).f1)]] (by rfl) rfl rfl (by (try simp only [List.map_toArray, List.map_cons, List.map_nil]); first | done | rfl | (simp only [List.length_drop, List.length_take]; rfl)) ?_
                with_reducible refine (span_Valid.calls ((rd_T25 t218 x8_2).f0) ((rd_T25 t218 x8_2).f1) true _ A39.out).mono ?_
                rintro e w52 ⟨rfl, hb⟩
                have HS2_ := (hb.cell (World.block_lt_of_cell? _ _ (hHeld.2.2.1))).trans (hHeld.2.2.1)
                have HS3_ := (hb.cell (World.block_lt_of_cell? _ _ (hHeld.2.2.2.1))).trans (hHeld.2.2.2.1)
                have HS4_ := (hb.cell (World.block_lt_of_cell? _ _ (hHeld.2.2.2.2.1))).trans (hHeld.2.2.2.2.1)
                have HS5_ := (hb.cell (World.block_lt_of_cell? _ _ (hHeld.2.2.2.2.2.1))).trans (hHeld.2.2.2.2.2.1)
                have HS6_ := (hb.cell (World.block_lt_of_cell? _ _ (hHeld.2.2.2.2.2.2.1))).trans (hHeld.2.2.2.2.2.2.1)
                have HS7_ := (hb.cell (World.block_lt_of_cell? _ _ (hHeld.2.2.2.2.2.2.2.1))).trans (hHeld.2.2.2.2.2.2.2.1)
                have HS8_ := (hb.cell (World.block_lt_of_cell? _ _ (hHeld.2.2.2.2.2.2.2.2.1))).trans (hHeld.2.2.2.2.2.2.2.2.1)
                have HS9_ := (hb.cell (World.block_lt_of_cell? _ _ (hHeld.2.2.2.2.2.2.2.2.2))).trans (hHeld.2.2.2.2.2.2.2.2.2)
                refine ⟨_, rfl, ?_⟩
                have n0_ := Aside0.mk (Kd.R_below (rq HO_6.out) hb)
                have n1_ := Aside0.mk (blk_below (bg BK213.out) hb)
                have n2_ := Aside0.mk (below_step (bs HB.out) hb)
                clear HO_6
                clear BK213
                clear HB
                have HO_6 := n0_
                have BK213 := n1_
                have HB := n2_
                clear n0_ n1_ n2_
                (try clear hb)
                (try clear hb2)
                (try clear hk)
                (try clear hi)
                refine hK.out _ _ ⟨(blk_cell BK213.out 0).trans rfl, (blk_cell BK213.out 1).trans rfl, HS2_, HS3_, HS4_, HS5_, HS6_, HS7_, HS8_, HS9_⟩ (fun hHeld => ?_)
                clear hK K
                refine norm_ (a' := ?_) ?_ ?_
                rotate_left
                ·
                 show Act.put _ (some 59) _ = _
                 simp only [Act.put, List.setIfInBounds_toArray, List.set_cons_zero, List.set_cons_succ, i64_w, i32_w]
                 rfl
                refine pu 5 60 (bsq 6 38) ?_
                refine pu 6 61 (bsq 7 37) ?_
                refine pu 7 62 (bsq 8 36) ?_
                refine pu 8 63 (bsq 9 35) ?_
                refine pu 9 64 (bsq 10 34) ?_
                refine pu 10 65 (bsq 11 33) ?_
                refine pu 11 66 (bsq 12 32) ?_
                refine pu 12 67 (bsq 13 31) ?_
                refine pu 13 68 (bsq 14 30) ?_
                refine pu 15 70 (bls [14, 1, 1, 28]) ?_
                refine pu 16 71 (bls [14, 1, 2, 27]) ?_
                refine pu 17 72 (bls [14, 1, 3, 26]) ?_
                refine pu 18 73 (bls [14, 1, 4, 25]) ?_
                refine pu 19 74 (bls [14, 1, 5, 24]) ?_
                refine tk 14 69 (bsq 20 24) hHeld ?_ (he := by rintro w' ⟨s0, s1, s2, s3, s4, s5, s6, s7, s8, s9⟩; go_simp; with_reducible rfl)
                refine tk 20 75 (bsq 21 23) hHeld ?_ (he := by rintro w' ⟨s0, s1, s2, s3, s4, s5, s6, s7, s8, s9⟩; go_simp; with_reducible rfl)
                refine pu 21 76 (bsq 22 22) ?_
                refine pu 22 77 (bsq 23 21) ?_
                refine pu 23 78 (bsq 24 20) ?_
                refine pu 24 79 (bsq 25 19) ?_
                refine pu 25 80 (bsq 26 18) ?_
                refine pu 26 81 (bsq 27 17) ?_
                refine pu 27 82 (bsq 28 16) ?_
                refine pu 28 83 (bsq 29 15) ?_
                refine pu 30 85 (bls [29, 1, 1, 13]) ?_
                refine tk 29 84 (bsq 31 13) hHeld ?_ (he := by rintro w' ⟨s0, s1, s2, s3, s4, s5, s6, s7, s8, s9⟩; go_simp; with_reducible rfl)
                refine tk 31 86 (bsq 32 12) hHeld ?_ (he := by rintro w' ⟨s0, s1, s2, s3, s4, s5, s6, s7, s8, s9⟩; go_simp; with_reducible rfl)
                refine pu 32 87 (bsq 33 11) ?_
                refine pu 33 88 (bsq 34 10) ?_
                refine pu 34 89 (bsq 35 9) ?_
                refine un 35 90 (bsq 36 8) ?_
                refine un 36 91 (bsq 37 7) ?_
                refine un 37 92 (bsq 38 6) ?_
                refine un 38 93 (bsq 39 5) ?_
                refine un 39 94 (bsq 40 4) ?_
                refine un 40 95 (bsq 41 3) ?_
                refine un 41 96 (bsq 42 2) ?_
                refine un 42 97 (bsq 43 1) ?_
                refine pu 43 98 (bsq 44 0) ?_
                refine done_ (done_of HT_.out (by kernel_rfl)) ?_
                try go_wp2
                go_ret
                exact ⟨by first | rfl | (simp [errW_none, errW_some] <;> rfl) | (simp only [← hji42]; first | rfl | (simp [errW_none, errW_some] <;> rfl)) | (simp [*, errW_none, errW_some] <;> rfl), bs HB.out⟩
               ·
                rw [if_neg c49] at H
                have c49b0 : decide (((rd_T25 t218 x8_2).f0) < a1_0) = false := decide_eq_false c49
                clear c49
                by_cases c53 : ((rd_T25 t218 x8_2).f1) > a1_1
                ·
                 rw [if_pos c53] at H
                 have c53b0 : decide (a1_1 < ((rd_T25 t218 x8_2).f1)) = true := decide_eq_true c53
                 clear c53
                 obtain rfl := Option.some.inj H
                 obtain ⟨Ao54, co54, eo54⟩ := Kd.R_slice HO_6.out
                 subst eo54
                 try go_wp2
                 have n0_ := Aside0.mk (Kd.R_drew HO_6.out)
                 have n1_ := Aside0.mk (blk_drew BK213.out)
                 have n2_ := Aside0.mk (below_drew1 HB.out)
                 clear HO_6
                 clear BK213
                 clear HB
                 have HO_6 := n0_
                 have BK213 := n1_
                 have HB := n2_
                 clear n0_ n1_ n2_
                 have p225 : 0 ≤ (x8_2 : Int) := of_decide_eq_true (by first | (with_reducible assumption) | assumption)
                 have q225 : x8_2 < (t218.length : Int) := of_decide_eq_true (by first | (with_reducible assumption) | assumption)
                 obtain ⟨ad225, e225, hx225_0, hx225_1⟩ := at_T25 (Kd.R_reads' HO_6.out).2.2 x8_2 p225 q225
                 cases e225
                 replace p225 := eq_true p225
                 replace q225 := eq_true q225
                 have p227 : 0 ≤ (x8_2 : Int) := of_decide_eq_true (by first | (with_reducible assumption) | assumption)
                 have q227 : x8_2 < (t218.length : Int) := of_decide_eq_true (by first | (with_reducible assumption) | assumption)
                 obtain ⟨ad227, e227, hx227_0, hx227_1⟩ := at_T25 (Kd.R_reads' HO_6.out).2.2 x8_2 p227 q227
                 obtain rfl : ad225 = ad227 := (by injection e227)
                 replace p227 := eq_true p227
                 replace q227 := eq_true q227
                 have p228 : 0 ≤ ((ji42) : Int) := of_decide_eq_true (by first | (with_reducible assumption) | assumption)
                 have q228 : (ji42) < (t218.length : Int) := of_decide_eq_true (by first | (with_reducible assumption) | assumption)
                 obtain ⟨ad228, e228, hx228_0, hx228_1⟩ := at_T25 (Kd.R_reads' HO_6.out).2.2 (ji42) p228 q228
                 obtain rfl : ad225 = ad228 := (by injection e228)
                 replace p228 := eq_true p228
                 replace q228 := eq_true q228
                 have p229 : 0 ≤ (x8_2 : Int) := of_decide_eq_true (by first | (with_reducible assumption) | assumption)
                 have q229 : x8_2 < (t218.length : Int) := of_decide_eq_true (by first | (with_reducible assumption) | assumption)
                 obtain ⟨ad229, e229, hx229_0, hx229_1⟩ := at_T25 (Kd.R_reads' HO_6.out).2.2 x8_2 p229 q229
                 obtain rfl : ad225 = ad229 := (by injection e229)
                 replace p229 := eq_true p229
                 replace q229 := eq_true q229
                 have p230 : 0 ≤ (x8_2 : Int) := of_decide_eq_true (by first | (with_reducible assumption) | assumption)
                 have q230 : x8_2 < (t218.length : Int) := of_decide_eq_true (by first | (with_reducible assumption) | assumption)
                 obtain ⟨ad230, e230, hx230_0, hx230_1⟩ := at_T25 (Kd.R_reads' HO_6.out).2.2 x8_2 p230 q230
                 obtain rfl : ad225 = ad230 := (by injection e230)
                 replace p230 := eq_true p230
                 replace q230 := eq_true q230
                 refine start_ (n := 44) (S := fun w' => w'.cell? ⟨gb213, 0, none⟩ = some (.int .i64 a1_0) ∧ w'.cell? ⟨gb213, 1, none⟩ = some (.int .i64 a1_1) ∧ w'.cell? (ad225.add ((x8_2).toNat * 2)) = some (.int .i64 ((rd_T25 t218 x8_2).f0)) ∧ w'.cell? ⟨(ad225.add ((x8_2).toNat * 2)).block, (ad225.add ((x8_2).toNat * 2)).off + 1, none⟩ = some (.int .i64 ((rd_T25 t218 x8_2).f1)) ∧ w'.cell? (ad225.add ((x8_2).toNat * 2)) = some (.int .i64 ((rd_T25 t218 x8_2).f0)) ∧ w'.cell? ⟨(ad225.add ((x8_2).toNat * 2)).block, (ad225.add ((x8_2).toNat * 2)).off + 1, none⟩ = some (.int .i64 ((rd_T25 t218 x8_2).f1)) ∧ w'.cell? (ad225.add (((ji42)).toNat * 2)) = some (.int .i64 ((rd_T25 t218 (ji42)).f0)) ∧ w'.cell? ⟨(ad225.add (((ji42)).toNat * 2)).block, (ad225.add (((ji42)).toNat * 2)).off + 1, none⟩ = some (.int .i64 ((rd_T25 t218 (ji42)).f1)) ∧ w'.cell? (ad225.add ((x8_2).toNat * 2)) = some (.int .i64 ((rd_T25 t218 x8_2).f0)) ∧ w'.cell? ⟨(ad225.add ((x8_2).toNat * 2)).block, (ad225.add ((x8_2).toNat * 2)).off + 1, none⟩ = some (.int .i64 ((rd_T25 t218 x8_2).f1)) ∧ w'.cell? (ad225.add ((x8_2).toNat * 2)) = some (.int .i64 ((rd_T25 t218 x8_2).f0)) ∧ w'.cell? ⟨(ad225.add ((x8_2).toNat * 2)).block, (ad225.add ((x8_2).toNat * 2)).off + 1, none⟩ = some (.int .i64 ((rd_T25 t218 x8_2).f1))) (ds := []) (bsq 0 44) (by kernel_rfl) rfl rfl ⟨(blk_cell BK213.out 0).trans rfl, (blk_cell BK213.out 1).trans rfl, hx225_0, hx225_1, hx227_0, hx227_1, hx228_0, hx228_1, hx229_0, hx229_1, hx230_0, hx230_1⟩ (fun hHeld => ?_); refine with_tabW signalbenchlaw06_SpanApart.tab14 signalbenchlaw06_SpanApart.bits14 (fun HT_ HW_ => ?_)
                 generalize wr.drew = w55 at HO_6 BK213 HB hx225_0 hx225_1 hx227_0 hx227_1 hx228_0 hx228_1 hx229_0 hx229_1 hx230_0 hx230_1 hHeld ⊢
                 refine pu 0 55 (bsq 1 43) ?_
                 refine pu 1 56 (bsq 2 42) ?_
                 refine pu 2 57 (bsq 3 41) ?_
                 refine tk 3 58 (bsq 4 40) hHeld ?_ (he := by rintro w' ⟨s0, s1, s2, s3, s4, s5, s6, s7, s8, s9, s10, s11⟩; go_simp; with_reducible rfl)
                 refine one_ (i := 4) (N := some 59) (bsq 5 39) rfl rfl (one_of HT_.out (by kernel_rfl)) (by decide) (fun K hK => ?_)
                 refine goes_ Try.func14 (by kernel_rfl) rfl #[.agg #[.int .i64 ((rd_T25 t218 x8_2).f0), .int .i64 ((rd_T25 t218 x8_2).f1)]] (by rfl) rfl rfl (by (try simp only [List.map_toArray, List.map_cons, List.map_nil]); first | done | rfl | (simp only [List.length_drop, List.length_take]; rfl)) ?_
                 with_reducible refine (span_Valid.calls ((rd_T25 t218 x8_2).f0) ((rd_T25 t218 x8_2).f1) true _ A39.out).mono ?_
                 rintro e w56 ⟨rfl, hb⟩
                 have HS2_ := (hb.cell (World.block_lt_of_cell? _ _ (hHeld.2.2.1))).trans (hHeld.2.2.1)
                 have HS3_ := (hb.cell (World.block_lt_of_cell? _ _ (hHeld.2.2.2.1))).trans (hHeld.2.2.2.1)
                 have HS4_ := (hb.cell (World.block_lt_of_cell? _ _ (hHeld.2.2.2.2.1))).trans (hHeld.2.2.2.2.1)
                 have HS5_ := (hb.cell (World.block_lt_of_cell? _ _ (hHeld.2.2.2.2.2.1))).trans (hHeld.2.2.2.2.2.1)
                 have HS6_ := (hb.cell (World.block_lt_of_cell? _ _ (hHeld.2.2.2.2.2.2.1))).trans (hHeld.2.2.2.2.2.2.1)
                 have HS7_ := (hb.cell (World.block_lt_of_cell? _ _ (hHeld.2.2.2.2.2.2.2.1))).trans (hHeld.2.2.2.2.2.2.2.1)
                 have HS8_ := (hb.cell (World.block_lt_of_cell? _ _ (hHeld.2.2.2.2.2.2.2.2.1))).trans (hHeld.2.2.2.2.2.2.2.2.1)
                 have HS9_ := (hb.cell (World.block_lt_of_cell? _ _ (hHeld.2.2.2.2.2.2.2.2.2.1))).trans (hHeld.2.2.2.2.2.2.2.2.2.1)
                 have HS10_ := (hb.cell (World.block_lt_of_cell? _ _ (hHeld.2.2.2.2.2.2.2.2.2.2.1))).trans (hHeld.2.2.2.2.2.2.2.2.2.2.1)
                 have HS11_ := (hb.cell (World.block_lt_of_cell? _ _ (hHeld.2.2.2.2.2.2.2.2.2.2.2))).trans (hHeld.2.2.2.2.2.2.2.2.2.2.2)
                 refine ⟨_, rfl, ?_⟩
                 have n0_ := Aside0.mk (Kd.R_below (rq HO_6.out) hb)
                 have n1_ := Aside0.mk (blk_below (bg BK213.out) hb)
                 have n2_ := Aside0.mk (below_step (bs HB.out) hb)
                 clear HO_6
                 clear BK213
                 clear HB
                 have HO_6 := n0_
                 have BK213 := n1_
                 have HB := n2_
                 clear n0_ n1_ n2_
                 (try clear hb)
                 (try clear hb2)
                 (try clear hk)
                 (try clear hi)
                 refine hK.out _ _ ⟨(blk_cell BK213.out 0).trans rfl, (blk_cell BK213.out 1).trans rfl, HS2_, HS3_, HS4_, HS5_, HS6_, HS7_, HS8_, HS9_, HS10_, HS11_⟩ (fun hHeld => ?_)
                 clear hK K
                 refine norm_ (a' := ?_) ?_ ?_
                 rotate_left
                 ·
                  show Act.put _ (some 59) _ = _
                  simp only [Act.put, List.setIfInBounds_toArray, List.set_cons_zero, List.set_cons_succ, i64_w, i32_w]
                  rfl
                 refine pu 5 60 (bsq 6 38) ?_
                 refine pu 6 61 (bsq 7 37) ?_
                 refine pu 7 62 (bsq 8 36) ?_
                 refine pu 8 63 (bsq 9 35) ?_
                 refine pu 9 64 (bsq 10 34) ?_
                 refine pu 10 65 (bsq 11 33) ?_
                 refine pu 11 66 (bsq 12 32) ?_
                 refine pu 12 67 (bsq 13 31) ?_
                 refine pu 13 68 (bsq 14 30) ?_
                 refine pu 15 70 (bls [14, 1, 1, 28]) ?_
                 refine pu 16 71 (bls [14, 1, 2, 27]) ?_
                 refine pu 17 72 (bls [14, 1, 3, 26]) ?_
                 refine pu 18 73 (bls [14, 1, 4, 25]) ?_
                 refine pu 19 74 (bls [14, 1, 5, 24]) ?_
                 refine tk 14 69 (bsq 20 24) hHeld ?_ (he := by rintro w' ⟨s0, s1, s2, s3, s4, s5, s6, s7, s8, s9, s10, s11⟩; go_simp; with_reducible rfl)
                 refine tk 20 75 (bsq 21 23) hHeld ?_ (he := by rintro w' ⟨s0, s1, s2, s3, s4, s5, s6, s7, s8, s9, s10, s11⟩; go_simp; with_reducible rfl)
                 refine pu 21 76 (bsq 22 22) ?_
                 refine pu 22 77 (bsq 23 21) ?_
                 refine pu 23 78 (bsq 24 20) ?_
                 refine pu 24 79 (bsq 25 19) ?_
                 refine pu 25 80 (bsq 26 18) ?_
                 refine pu 26 81 (bsq 27 17) ?_
                 refine pu 27 82 (bsq 28 16) ?_
                 refine pu 28 83 (bsq 29 15) ?_
                 refine pu 30 85 (bls [29, 1, 1, 13]) ?_
                 refine tk 29 84 (bsq 31 13) hHeld ?_ (he := by rintro w' ⟨s0, s1, s2, s3, s4, s5, s6, s7, s8, s9, s10, s11⟩; go_simp; with_reducible rfl)
                 refine tk 31 86 (bsq 32 12) hHeld ?_ (he := by rintro w' ⟨s0, s1, s2, s3, s4, s5, s6, s7, s8, s9, s10, s11⟩; go_simp; with_reducible rfl)
                 refine pu 32 87 (bsq 33 11) ?_
                 refine pu 33 88 (bsq 34 10) ?_
                 refine pu 34 89 (bsq 35 9) ?_
                 refine pu 35 90 (bsq 36 8) ?_
                 refine pu 36 91 (bsq 37 7) ?_
                 refine pu 37 92 (bsq 38 6) ?_
                 refine pu 38 93 (bsq 39 5) ?_
                 refine pu 40 95 (bls [39, 1, 1, 3]) ?_
                 refine tk 39 94 (bsq 41 3) hHeld ?_ (he := by rintro w' ⟨s0, s1, s2, s3, s4, s5, s6, s7, s8, s9, s10, s11⟩; go_simp; with_reducible rfl)
                 refine tk 41 96 (bsq 42 2) hHeld ?_ (he := by rintro w' ⟨s0, s1, s2, s3, s4, s5, s6, s7, s8, s9, s10, s11⟩; go_simp; with_reducible rfl)
                 refine pu 42 97 (bsq 43 1) ?_
                 refine pu 43 98 (bsq 44 0) ?_
                 refine done_ (done_of HT_.out (by kernel_rfl)) ?_
                 try go_wp2
                 go_ret
                 exact ⟨by first | rfl | (simp [errW_none, errW_some] <;> rfl) | (simp only [← hji42]; first | rfl | (simp [errW_none, errW_some] <;> rfl)) | (simp [*, errW_none, errW_some] <;> rfl), bs HB.out⟩
                ·
                 rw [if_neg c53] at H
                 have c53b0 : decide (a1_1 < ((rd_T25 t218 x8_2).f1)) = false := decide_eq_false c53
                 clear c53
                 have H' := Aside0.mk H
                 clear H
                 obtain ⟨Ao57, co57, eo57⟩ := Kd.R_slice HO_6.out
                 subst eo57
                 try go_wp2
                 have n0_ := Aside0.mk (Kd.R_drew HO_6.out)
                 have n1_ := Aside0.mk (blk_drew BK213.out)
                 have n2_ := Aside0.mk (below_drew1 HB.out)
                 clear HO_6
                 clear BK213
                 clear HB
                 have HO_6 := n0_
                 have BK213 := n1_
                 have HB := n2_
                 clear n0_ n1_ n2_
                 have p225 : 0 ≤ (x8_2 : Int) := of_decide_eq_true (by first | (with_reducible assumption) | assumption)
                 have q225 : x8_2 < (t218.length : Int) := of_decide_eq_true (by first | (with_reducible assumption) | assumption)
                 obtain ⟨ad225, e225, hx225_0, hx225_1⟩ := at_T25 (Kd.R_reads' HO_6.out).2.2 x8_2 p225 q225
                 cases e225
                 replace p225 := eq_true p225
                 replace q225 := eq_true q225
                 have p227 : 0 ≤ (x8_2 : Int) := of_decide_eq_true (by first | (with_reducible assumption) | assumption)
                 have q227 : x8_2 < (t218.length : Int) := of_decide_eq_true (by first | (with_reducible assumption) | assumption)
                 obtain ⟨ad227, e227, hx227_0, hx227_1⟩ := at_T25 (Kd.R_reads' HO_6.out).2.2 x8_2 p227 q227
                 obtain rfl : ad225 = ad227 := (by injection e227)
                 replace p227 := eq_true p227
                 replace q227 := eq_true q227
                 have p228 : 0 ≤ ((ji42) : Int) := of_decide_eq_true (by first | (with_reducible assumption) | assumption)
                 have q228 : (ji42) < (t218.length : Int) := of_decide_eq_true (by first | (with_reducible assumption) | assumption)
                 obtain ⟨ad228, e228, hx228_0, hx228_1⟩ := at_T25 (Kd.R_reads' HO_6.out).2.2 (ji42) p228 q228
                 obtain rfl : ad225 = ad228 := (by injection e228)
                 replace p228 := eq_true p228
                 replace q228 := eq_true q228
                 have p229 : 0 ≤ (x8_2 : Int) := of_decide_eq_true (by first | (with_reducible assumption) | assumption)
                 have q229 : x8_2 < (t218.length : Int) := of_decide_eq_true (by first | (with_reducible assumption) | assumption)
                 obtain ⟨ad229, e229, hx229_0, hx229_1⟩ := at_T25 (Kd.R_reads' HO_6.out).2.2 x8_2 p229 q229
                 obtain rfl : ad225 = ad229 := (by injection e229)
                 replace p229 := eq_true p229
                 replace q229 := eq_true q229
                 have p230 : 0 ≤ (x8_2 : Int) := of_decide_eq_true (by first | (with_reducible assumption) | assumption)
                 have q230 : x8_2 < (t218.length : Int) := of_decide_eq_true (by first | (with_reducible assumption) | assumption)
                 obtain ⟨ad230, e230, hx230_0, hx230_1⟩ := at_T25 (Kd.R_reads' HO_6.out).2.2 x8_2 p230 q230
                 obtain rfl : ad225 = ad230 := (by injection e230)
                 replace p230 := eq_true p230
                 replace q230 := eq_true q230
                 refine start_ (n := 44) (S := fun w' => w'.cell? ⟨gb213, 0, none⟩ = some (.int .i64 a1_0) ∧ w'.cell? ⟨gb213, 1, none⟩ = some (.int .i64 a1_1) ∧ w'.cell? (ad225.add ((x8_2).toNat * 2)) = some (.int .i64 ((rd_T25 t218 x8_2).f0)) ∧ w'.cell? ⟨(ad225.add ((x8_2).toNat * 2)).block, (ad225.add ((x8_2).toNat * 2)).off + 1, none⟩ = some (.int .i64 ((rd_T25 t218 x8_2).f1)) ∧ w'.cell? (ad225.add ((x8_2).toNat * 2)) = some (.int .i64 ((rd_T25 t218 x8_2).f0)) ∧ w'.cell? ⟨(ad225.add ((x8_2).toNat * 2)).block, (ad225.add ((x8_2).toNat * 2)).off + 1, none⟩ = some (.int .i64 ((rd_T25 t218 x8_2).f1)) ∧ w'.cell? (ad225.add (((ji42)).toNat * 2)) = some (.int .i64 ((rd_T25 t218 (ji42)).f0)) ∧ w'.cell? ⟨(ad225.add (((ji42)).toNat * 2)).block, (ad225.add (((ji42)).toNat * 2)).off + 1, none⟩ = some (.int .i64 ((rd_T25 t218 (ji42)).f1)) ∧ w'.cell? (ad225.add ((x8_2).toNat * 2)) = some (.int .i64 ((rd_T25 t218 x8_2).f0)) ∧ w'.cell? ⟨(ad225.add ((x8_2).toNat * 2)).block, (ad225.add ((x8_2).toNat * 2)).off + 1, none⟩ = some (.int .i64 ((rd_T25 t218 x8_2).f1)) ∧ w'.cell? (ad225.add ((x8_2).toNat * 2)) = some (.int .i64 ((rd_T25 t218 x8_2).f0)) ∧ w'.cell? ⟨(ad225.add ((x8_2).toNat * 2)).block, (ad225.add ((x8_2).toNat * 2)).off + 1, none⟩ = some (.int .i64 ((rd_T25 t218 x8_2).f1))) (ds := []) (bsq 0 44) (by kernel_rfl) rfl rfl ⟨(blk_cell BK213.out 0).trans rfl, (blk_cell BK213.out 1).trans rfl, hx225_0, hx225_1, hx227_0, hx227_1, hx228_0, hx228_1, hx229_0, hx229_1, hx230_0, hx230_1⟩ (fun hHeld => ?_); refine with_tabW signalbenchlaw06_SpanApart.tab14 signalbenchlaw06_SpanApart.bits14 (fun HT_ HW_ => ?_)
                 generalize wr.drew = w58 at HO_6 BK213 HB hx225_0 hx225_1 hx227_0 hx227_1 hx228_0 hx228_1 hx229_0 hx229_1 hx230_0 hx230_1 hHeld ⊢
                 refine pu 0 55 (bsq 1 43) ?_
                 refine pu 1 56 (bsq 2 42) ?_
                 refine pu 2 57 (bsq 3 41) ?_
                 refine tk 3 58 (bsq 4 40) hHeld ?_ (he := by rintro w' ⟨s0, s1, s2, s3, s4, s5, s6, s7, s8, s9, s10, s11⟩; go_simp; with_reducible rfl)
                 refine one_ (i := 4) (N := some 59) (bsq 5 39) rfl rfl (one_of HT_.out (by kernel_rfl)) (by decide) (fun K hK => ?_)
                 refine goes_ Try.func14 (by kernel_rfl) rfl #[.agg #[.int .i64 ((rd_T25 t218 x8_2).f0), .int .i64 ((rd_T25 t218 x8_2).f1)]] (by rfl) rfl rfl (by (try simp only [List.map_toArray, List.map_cons, List.map_nil]); first | done | rfl | (simp only [List.length_drop, List.length_take]; rfl)) ?_
                 with_reducible refine (span_Valid.calls ((rd_T25 t218 x8_2).f0) ((rd_T25 t218 x8_2).f1) true _ A39.out).mono ?_
                 rintro e w59 ⟨rfl, hb⟩
                 have HS2_ := (hb.cell (World.block_lt_of_cell? _ _ (hHeld.2.2.1))).trans (hHeld.2.2.1)
                 have HS3_ := (hb.cell (World.block_lt_of_cell? _ _ (hHeld.2.2.2.1))).trans (hHeld.2.2.2.1)
                 have HS4_ := (hb.cell (World.block_lt_of_cell? _ _ (hHeld.2.2.2.2.1))).trans (hHeld.2.2.2.2.1)
                 have HS5_ := (hb.cell (World.block_lt_of_cell? _ _ (hHeld.2.2.2.2.2.1))).trans (hHeld.2.2.2.2.2.1)
                 have HS6_ := (hb.cell (World.block_lt_of_cell? _ _ (hHeld.2.2.2.2.2.2.1))).trans (hHeld.2.2.2.2.2.2.1)
                 have HS7_ := (hb.cell (World.block_lt_of_cell? _ _ (hHeld.2.2.2.2.2.2.2.1))).trans (hHeld.2.2.2.2.2.2.2.1)
                 have HS8_ := (hb.cell (World.block_lt_of_cell? _ _ (hHeld.2.2.2.2.2.2.2.2.1))).trans (hHeld.2.2.2.2.2.2.2.2.1)
                 have HS9_ := (hb.cell (World.block_lt_of_cell? _ _ (hHeld.2.2.2.2.2.2.2.2.2.1))).trans (hHeld.2.2.2.2.2.2.2.2.2.1)
                 have HS10_ := (hb.cell (World.block_lt_of_cell? _ _ (hHeld.2.2.2.2.2.2.2.2.2.2.1))).trans (hHeld.2.2.2.2.2.2.2.2.2.2.1)
                 have HS11_ := (hb.cell (World.block_lt_of_cell? _ _ (hHeld.2.2.2.2.2.2.2.2.2.2.2))).trans (hHeld.2.2.2.2.2.2.2.2.2.2.2)
                 refine ⟨_, rfl, ?_⟩
                 have n0_ := Aside0.mk (Kd.R_below (rq HO_6.out) hb)
                 have n1_ := Aside0.mk (blk_below (bg BK213.out) hb)
                 have n2_ := Aside0.mk (below_step (bs HB.out) hb)
                 clear HO_6
                 clear BK213
                 clear HB
                 have HO_6 := n0_
                 have BK213 := n1_
                 have HB := n2_
                 clear n0_ n1_ n2_
                 (try clear hb)
                 (try clear hb2)
                 (try clear hk)
                 (try clear hi)
                 refine hK.out _ _ ⟨(blk_cell BK213.out 0).trans rfl, (blk_cell BK213.out 1).trans rfl, HS2_, HS3_, HS4_, HS5_, HS6_, HS7_, HS8_, HS9_, HS10_, HS11_⟩ (fun hHeld => ?_)
                 clear hK K
                 refine norm_ (a' := ?_) ?_ ?_
                 rotate_left
                 ·
                  show Act.put _ (some 59) _ = _
                  simp only [Act.put, List.setIfInBounds_toArray, List.set_cons_zero, List.set_cons_succ, i64_w, i32_w]
                  rfl
                 refine pu 5 60 (bsq 6 38) ?_
                 refine pu 6 61 (bsq 7 37) ?_
                 refine pu 7 62 (bsq 8 36) ?_
                 refine pu 8 63 (bsq 9 35) ?_
                 refine pu 9 64 (bsq 10 34) ?_
                 refine pu 10 65 (bsq 11 33) ?_
                 refine pu 11 66 (bsq 12 32) ?_
                 refine pu 12 67 (bsq 13 31) ?_
                 refine pu 13 68 (bsq 14 30) ?_
                 refine pu 15 70 (bls [14, 1, 1, 28]) ?_
                 refine pu 16 71 (bls [14, 1, 2, 27]) ?_
                 refine pu 17 72 (bls [14, 1, 3, 26]) ?_
                 refine pu 18 73 (bls [14, 1, 4, 25]) ?_
                 refine pu 19 74 (bls [14, 1, 5, 24]) ?_
                 refine tk 14 69 (bsq 20 24) hHeld ?_ (he := by rintro w' ⟨s0, s1, s2, s3, s4, s5, s6, s7, s8, s9, s10, s11⟩; go_simp; with_reducible rfl)
                 refine tk 20 75 (bsq 21 23) hHeld ?_ (he := by rintro w' ⟨s0, s1, s2, s3, s4, s5, s6, s7, s8, s9, s10, s11⟩; go_simp; with_reducible rfl)
                 refine pu 21 76 (bsq 22 22) ?_
                 refine pu 22 77 (bsq 23 21) ?_
                 refine pu 23 78 (bsq 24 20) ?_
                 refine pu 24 79 (bsq 25 19) ?_
                 refine pu 25 80 (bsq 26 18) ?_
                 refine pu 26 81 (bsq 27 17) ?_
                 refine pu 27 82 (bsq 28 16) ?_
                 refine pu 28 83 (bsq 29 15) ?_
                 refine pu 30 85 (bls [29, 1, 1, 13]) ?_
                 refine tk 29 84 (bsq 31 13) hHeld ?_ (he := by rintro w' ⟨s0, s1, s2, s3, s4, s5, s6, s7, s8, s9, s10, s11⟩; go_simp; with_reducible rfl)
                 refine tk 31 86 (bsq 32 12) hHeld ?_ (he := by rintro w' ⟨s0, s1, s2, s3, s4, s5, s6, s7, s8, s9, s10, s11⟩; go_simp; with_reducible rfl)
                 refine pu 32 87 (bsq 33 11) ?_
                 refine pu 33 88 (bsq 34 10) ?_
                 refine pu 34 89 (bsq 35 9) ?_
                 refine pu 35 90 (bsq 36 8) ?_
                 refine pu 36 91 (bsq 37 7) ?_
                 refine pu 37 92 (bsq 38 6) ?_
                 refine pu 38 93 (bsq 39 5) ?_
                 refine pu 40 95 (bls [39, 1, 1, 3]) ?_
                 refine tk 39 94 (bsq 41 3) hHeld ?_ (he := by rintro w' ⟨s0, s1, s2, s3, s4, s5, s6, s7, s8, s9, s10, s11⟩; go_simp; with_reducible rfl)
                 refine tk 41 96 (bsq 42 2) hHeld ?_ (he := by rintro w' ⟨s0, s1, s2, s3, s4, s5, s6, s7, s8, s9, s10, s11⟩; go_simp; with_reducible rfl)
                 refine pu 42 97 (bsq 43 1) ?_
                 refine pu 43 98 (bsq 44 0) ?_
                 refine done_ (done_of HT_.out (by kernel_rfl)) ?_
                 try go_wp2
                 go_roundg k2
                 case measure => have := HK1.out; have := HK2.out; omega
                 case rel => exact ⟨(wrap64 (x8_2 + 1)), (by first | rfl | (simp; done) | (simp [*]; done)), H', ⟨by have := HK1.out; have := HK2.out; omega⟩, ⟨by (with_reducible repeat (first | apply Kd.R_alloc | apply Kd.R_drewN | apply Kd.R_drew)); exact HO_6.out⟩, ⟨bg BK213.out⟩, ⟨bs HB.out⟩⟩
             ·
              rw [if_neg c44] at H
              exact absurd H (by simp)
            ·
             rw [if_neg c43] at H
             exact absurd H (by simp)
           ·
            rw [if_neg c41] at H
            have c41b0 : decide (0 < x8_2) = false := decide_eq_false c41
            clear c41
            by_cases c60 : ((rd_T25 t218 x8_2).f0) < a1_0
            ·
             rw [if_pos c60] at H
             have c60b0 : decide (((rd_T25 t218 x8_2).f0) < a1_0) = true := decide_eq_true c60
             clear c60
             obtain rfl := Option.some.inj H
             obtain ⟨Ao61, co61, eo61⟩ := Kd.R_slice HO_6.out
             subst eo61
             try go_wp2
             have n0_ := Aside0.mk (Kd.R_drew HO_6.out)
             have n1_ := Aside0.mk (blk_drew BK213.out)
             have n2_ := Aside0.mk (below_drew1 HB.out)
             clear HO_6
             clear BK213
             clear HB
             have HO_6 := n0_
             have BK213 := n1_
             have HB := n2_
             clear n0_ n1_ n2_
             have p225 : 0 ≤ (x8_2 : Int) := of_decide_eq_true (by first | (with_reducible assumption) | assumption)
             have q225 : x8_2 < (t218.length : Int) := of_decide_eq_true (by first | (with_reducible assumption) | assumption)
             obtain ⟨ad225, e225, hx225_0, hx225_1⟩ := at_T25 (Kd.R_reads' HO_6.out).2.2 x8_2 p225 q225
             cases e225
             replace p225 := eq_true p225
             replace q225 := eq_true q225
             have p231 : 0 ≤ (x8_2 : Int) := of_decide_eq_true (by first | (with_reducible assumption) | assumption)
             have q231 : x8_2 < (t218.length : Int) := of_decide_eq_true (by first | (with_reducible assumption) | assumption)
             obtain ⟨ad231, e231, hx231_0, hx231_1⟩ := at_T25 (Kd.R_reads' HO_6.out).2.2 x8_2 p231 q231
             obtain rfl : ad225 = ad231 := (by injection e231)
             replace p231 := eq_true p231
             replace q231 := eq_true q231
             refine start_ (n := 44) (S := fun w' => w'.cell? ⟨gb213, 0, none⟩ = some (.int .i64 a1_0) ∧ w'.cell? ⟨gb213, 1, none⟩ = some (.int .i64 a1_1) ∧ w'.cell? (ad225.add ((x8_2).toNat * 2)) = some (.int .i64 ((rd_T25 t218 x8_2).f0)) ∧ w'.cell? ⟨(ad225.add ((x8_2).toNat * 2)).block, (ad225.add ((x8_2).toNat * 2)).off + 1, none⟩ = some (.int .i64 ((rd_T25 t218 x8_2).f1)) ∧ w'.cell? (ad225.add ((x8_2).toNat * 2)) = some (.int .i64 ((rd_T25 t218 x8_2).f0)) ∧ w'.cell? ⟨(ad225.add ((x8_2).toNat * 2)).block, (ad225.add ((x8_2).toNat * 2)).off + 1, none⟩ = some (.int .i64 ((rd_T25 t218 x8_2).f1))) (ds := []) (bsq 0 44) (by kernel_rfl) rfl rfl ⟨(blk_cell BK213.out 0).trans rfl, (blk_cell BK213.out 1).trans rfl, hx225_0, hx225_1, hx231_0, hx231_1⟩ (fun hHeld => ?_); refine with_tabW signalbenchlaw06_SpanApart.tab14 signalbenchlaw06_SpanApart.bits14 (fun HT_ HW_ => ?_)
             generalize wr.drew = w62 at HO_6 BK213 HB hx225_0 hx225_1 hx231_0 hx231_1 hHeld ⊢
             refine pu 0 55 (bsq 1 43) ?_
             refine pu 1 56 (bsq 2 42) ?_
             refine pu 2 57 (bsq 3 41) ?_
             refine tk 3 58 (bsq 4 40) hHeld ?_ (he := by rintro w' ⟨s0, s1, s2, s3, s4, s5⟩; go_simp; with_reducible rfl)
             refine one_ (i := 4) (N := some 59) (bsq 5 39) rfl rfl (one_of HT_.out (by kernel_rfl)) (by decide) (fun K hK => ?_)
             refine goes_ Try.func14 (by kernel_rfl) rfl #[.agg #[.int .i64 ((rd_T25 t218 x8_2).f0), .int .i64 ((rd_T25 t218 x8_2).f1)]] (by rfl) rfl rfl (by (try simp only [List.map_toArray, List.map_cons, List.map_nil]); first | done | rfl | (simp only [List.length_drop, List.length_take]; rfl)) ?_
             with_reducible refine (span_Valid.calls ((rd_T25 t218 x8_2).f0) ((rd_T25 t218 x8_2).f1) true _ A39.out).mono ?_
             rintro e w63 ⟨rfl, hb⟩
             have HS2_ := (hb.cell (World.block_lt_of_cell? _ _ (hHeld.2.2.1))).trans (hHeld.2.2.1)
             have HS3_ := (hb.cell (World.block_lt_of_cell? _ _ (hHeld.2.2.2.1))).trans (hHeld.2.2.2.1)
             have HS4_ := (hb.cell (World.block_lt_of_cell? _ _ (hHeld.2.2.2.2.1))).trans (hHeld.2.2.2.2.1)
             have HS5_ := (hb.cell (World.block_lt_of_cell? _ _ (hHeld.2.2.2.2.2))).trans (hHeld.2.2.2.2.2)
             refine ⟨_, rfl, ?_⟩
             have n0_ := Aside0.mk (Kd.R_below (rq HO_6.out) hb)
             have n1_ := Aside0.mk (blk_below (bg BK213.out) hb)
             have n2_ := Aside0.mk (below_step (bs HB.out) hb)
             clear HO_6
             clear BK213
             clear HB
             have HO_6 := n0_
             have BK213 := n1_
             have HB := n2_
             clear n0_ n1_ n2_
             (try clear hb)
             (try clear hb2)
             (try clear hk)
             (try clear hi)
             refine hK.out _ _ ⟨(blk_cell BK213.out 0).trans rfl, (blk_cell BK213.out 1).trans rfl, HS2_, HS3_, HS4_, HS5_⟩ (fun hHeld => ?_)
             clear hK K
             refine norm_ (a' := ?_) ?_ ?_
             rotate_left
             ·
              show Act.put _ (some 59) _ = _
              simp only [Act.put, List.setIfInBounds_toArray, List.set_cons_zero, List.set_cons_succ, i64_w, i32_w]
              rfl
             refine pu 5 60 (bsq 6 38) ?_
             refine pu 6 61 (bsq 7 37) ?_
             refine pu 7 62 (bsq 8 36) ?_
             refine pu 8 63 (bsq 9 35) ?_
             refine pu 9 64 (bsq 10 34) ?_
             refine un 10 65 (bsq 11 33) ?_
             refine un 11 66 (bsq 12 32) ?_
             refine un 12 67 (bsq 13 31) ?_
             refine un 13 68 (bsq 14 30) ?_
             refine un 14 69 (bsq 15 29) ?_
             refine un 15 70 (bsq 16 28) ?_
             refine un 16 71 (bsq 17 27) ?_
             refine un 17 72 (bsq 18 26) ?_
             refine un 18 73 (bsq 19 25) ?_
             refine un 19 74 (bsq 20 24) ?_
             refine un 20 75 (bsq 21 23) ?_
             refine un 21 76 (bsq 22 22) ?_
             refine pu 22 77 (bsq 23 21) ?_
             refine pu 23 78 (bsq 24 20) ?_
             refine pu 24 79 (bsq 25 19) ?_
             refine pu 25 80 (bsq 26 18) ?_
             refine pu 26 81 (bsq 27 17) ?_
             refine pu 27 82 (bsq 28 16) ?_
             refine pu 28 83 (bsq 29 15) ?_
             refine pu 30 85 (bls [29, 1, 1, 13]) ?_
             refine tk 29 84 (bsq 31 13) hHeld ?_ (he := by rintro w' ⟨s0, s1, s2, s3, s4, s5⟩; go_simp; with_reducible rfl)
             refine tk 31 86 (bsq 32 12) hHeld ?_ (he := by rintro w' ⟨s0, s1, s2, s3, s4, s5⟩; go_simp; with_reducible rfl)
             refine pu 32 87 (bsq 33 11) ?_
             refine pu 33 88 (bsq 34 10) ?_
             refine pu 34 89 (bsq 35 9) ?_
             refine un 35 90 (bsq 36 8) ?_
             refine un 36 91 (bsq 37 7) ?_
             refine un 37 92 (bsq 38 6) ?_
             refine un 38 93 (bsq 39 5) ?_
             refine un 39 94 (bsq 40 4) ?_
             refine un 40 95 (bsq 41 3) ?_
             refine un 41 96 (bsq 42 2) ?_
             refine un 42 97 (bsq 43 1) ?_
             refine pu 43 98 (bsq 44 0) ?_
             refine done_ (done_of HT_.out (by kernel_rfl)) ?_
             try go_wp2
             go_ret
             exact ⟨by first | rfl | (simp [errW_none, errW_some] <;> rfl) | (simp [*, errW_none, errW_some] <;> rfl), bs HB.out⟩
            ·
             rw [if_neg c60] at H
             have c60b0 : decide (((rd_T25 t218 x8_2).f0) < a1_0) = false := decide_eq_false c60
             clear c60
             by_cases c64 : ((rd_T25 t218 x8_2).f1) > a1_1
             ·
              rw [if_pos c64] at H
              have c64b0 : decide (a1_1 < ((rd_T25 t218 x8_2).f1)) = true := decide_eq_true c64
              clear c64
              obtain rfl := Option.some.inj H
              obtain ⟨Ao65, co65, eo65⟩ := Kd.R_slice HO_6.out
              subst eo65
              try go_wp2
              have n0_ := Aside0.mk (Kd.R_drew HO_6.out)
              have n1_ := Aside0.mk (blk_drew BK213.out)
              have n2_ := Aside0.mk (below_drew1 HB.out)
              clear HO_6
              clear BK213
              clear HB
              have HO_6 := n0_
              have BK213 := n1_
              have HB := n2_
              clear n0_ n1_ n2_
              have p225 : 0 ≤ (x8_2 : Int) := of_decide_eq_true (by first | (with_reducible assumption) | assumption)
              have q225 : x8_2 < (t218.length : Int) := of_decide_eq_true (by first | (with_reducible assumption) | assumption)
              obtain ⟨ad225, e225, hx225_0, hx225_1⟩ := at_T25 (Kd.R_reads' HO_6.out).2.2 x8_2 p225 q225
              cases e225
              replace p225 := eq_true p225
              replace q225 := eq_true q225
              have p231 : 0 ≤ (x8_2 : Int) := of_decide_eq_true (by first | (with_reducible assumption) | assumption)
              have q231 : x8_2 < (t218.length : Int) := of_decide_eq_true (by first | (with_reducible assumption) | assumption)
              obtain ⟨ad231, e231, hx231_0, hx231_1⟩ := at_T25 (Kd.R_reads' HO_6.out).2.2 x8_2 p231 q231
              obtain rfl : ad225 = ad231 := (by injection e231)
              replace p231 := eq_true p231
              replace q231 := eq_true q231
              have p232 : 0 ≤ (x8_2 : Int) := of_decide_eq_true (by first | (with_reducible assumption) | assumption)
              have q232 : x8_2 < (t218.length : Int) := of_decide_eq_true (by first | (with_reducible assumption) | assumption)
              obtain ⟨ad232, e232, hx232_0, hx232_1⟩ := at_T25 (Kd.R_reads' HO_6.out).2.2 x8_2 p232 q232
              obtain rfl : ad225 = ad232 := (by injection e232)
              replace p232 := eq_true p232
              replace q232 := eq_true q232
              refine start_ (n := 44) (S := fun w' => w'.cell? ⟨gb213, 0, none⟩ = some (.int .i64 a1_0) ∧ w'.cell? ⟨gb213, 1, none⟩ = some (.int .i64 a1_1) ∧ w'.cell? (ad225.add ((x8_2).toNat * 2)) = some (.int .i64 ((rd_T25 t218 x8_2).f0)) ∧ w'.cell? ⟨(ad225.add ((x8_2).toNat * 2)).block, (ad225.add ((x8_2).toNat * 2)).off + 1, none⟩ = some (.int .i64 ((rd_T25 t218 x8_2).f1)) ∧ w'.cell? (ad225.add ((x8_2).toNat * 2)) = some (.int .i64 ((rd_T25 t218 x8_2).f0)) ∧ w'.cell? ⟨(ad225.add ((x8_2).toNat * 2)).block, (ad225.add ((x8_2).toNat * 2)).off + 1, none⟩ = some (.int .i64 ((rd_T25 t218 x8_2).f1)) ∧ w'.cell? (ad225.add ((x8_2).toNat * 2)) = some (.int .i64 ((rd_T25 t218 x8_2).f0)) ∧ w'.cell? ⟨(ad225.add ((x8_2).toNat * 2)).block, (ad225.add ((x8_2).toNat * 2)).off + 1, none⟩ = some (.int .i64 ((rd_T25 t218 x8_2).f1))) (ds := []) (bsq 0 44) (by kernel_rfl) rfl rfl ⟨(blk_cell BK213.out 0).trans rfl, (blk_cell BK213.out 1).trans rfl, hx225_0, hx225_1, hx231_0, hx231_1, hx232_0, hx232_1⟩ (fun hHeld => ?_); refine with_tabW signalbenchlaw06_SpanApart.tab14 signalbenchlaw06_SpanApart.bits14 (fun HT_ HW_ => ?_)
              generalize wr.drew = w66 at HO_6 BK213 HB hx225_0 hx225_1 hx231_0 hx231_1 hx232_0 hx232_1 hHeld ⊢
              refine pu 0 55 (bsq 1 43) ?_
              refine pu 1 56 (bsq 2 42) ?_
              refine pu 2 57 (bsq 3 41) ?_
              refine tk 3 58 (bsq 4 40) hHeld ?_ (he := by rintro w' ⟨s0, s1, s2, s3, s4, s5, s6, s7⟩; go_simp; with_reducible rfl)
              refine one_ (i := 4) (N := some 59) (bsq 5 39) rfl rfl (one_of HT_.out (by kernel_rfl)) (by decide) (fun K hK => ?_)
              refine goes_ Try.func14 (by kernel_rfl) rfl #[.agg #[.int .i64 ((rd_T25 t218 x8_2).f0), .int .i64 ((rd_T25 t218 x8_2).f1)]] (by rfl) rfl rfl (by (try simp only [List.map_toArray, List.map_cons, List.map_nil]); first | done | rfl | (simp only [List.length_drop, List.length_take]; rfl)) ?_
              with_reducible refine (span_Valid.calls ((rd_T25 t218 x8_2).f0) ((rd_T25 t218 x8_2).f1) true _ A39.out).mono ?_
              rintro e w67 ⟨rfl, hb⟩
              have HS2_ := (hb.cell (World.block_lt_of_cell? _ _ (hHeld.2.2.1))).trans (hHeld.2.2.1)
              have HS3_ := (hb.cell (World.block_lt_of_cell? _ _ (hHeld.2.2.2.1))).trans (hHeld.2.2.2.1)
              have HS4_ := (hb.cell (World.block_lt_of_cell? _ _ (hHeld.2.2.2.2.1))).trans (hHeld.2.2.2.2.1)
              have HS5_ := (hb.cell (World.block_lt_of_cell? _ _ (hHeld.2.2.2.2.2.1))).trans (hHeld.2.2.2.2.2.1)
              have HS6_ := (hb.cell (World.block_lt_of_cell? _ _ (hHeld.2.2.2.2.2.2.1))).trans (hHeld.2.2.2.2.2.2.1)
              have HS7_ := (hb.cell (World.block_lt_of_cell? _ _ (hHeld.2.2.2.2.2.2.2))).trans (hHeld.2.2.2.2.2.2.2)
              refine ⟨_, rfl, ?_⟩
              have n0_ := Aside0.mk (Kd.R_below (rq HO_6.out) hb)
              have n1_ := Aside0.mk (blk_below (bg BK213.out) hb)
              have n2_ := Aside0.mk (below_step (bs HB.out) hb)
              clear HO_6
              clear BK213
              clear HB
              have HO_6 := n0_
              have BK213 := n1_
              have HB := n2_
              clear n0_ n1_ n2_
              (try clear hb)
              (try clear hb2)
              (try clear hk)
              (try clear hi)
              refine hK.out _ _ ⟨(blk_cell BK213.out 0).trans rfl, (blk_cell BK213.out 1).trans rfl, HS2_, HS3_, HS4_, HS5_, HS6_, HS7_⟩ (fun hHeld => ?_)
              clear hK K
              refine norm_ (a' := ?_) ?_ ?_
              rotate_left
              ·
               show Act.put _ (some 59) _ = _
               simp only [Act.put, List.setIfInBounds_toArray, List.set_cons_zero, List.set_cons_succ, i64_w, i32_w]
               rfl
              refine pu 5 60 (bsq 6 38) ?_
              refine pu 6 61 (bsq 7 37) ?_
              refine pu 7 62 (bsq 8 36) ?_
              refine pu 8 63 (bsq 9 35) ?_
              refine pu 9 64 (bsq 10 34) ?_
              refine un 10 65 (bsq 11 33) ?_
              refine un 11 66 (bsq 12 32) ?_
              refine un 12 67 (bsq 13 31) ?_
              refine un 13 68 (bsq 14 30) ?_
              refine un 14 69 (bsq 15 29) ?_
              refine un 15 70 (bsq 16 28) ?_
              refine un 16 71 (bsq 17 27) ?_
              refine un 17 72 (bsq 18 26) ?_
              refine un 18 73 (bsq 19 25) ?_
              refine un 19 74 (bsq 20 24) ?_
              refine un 20 75 (bsq 21 23) ?_
              refine un 21 76 (bsq 22 22) ?_
              refine pu 22 77 (bsq 23 21) ?_
              refine pu 23 78 (bsq 24 20) ?_
              refine pu 24 79 (bsq 25 19) ?_
              refine pu 25 80 (bsq 26 18) ?_
              refine pu 26 81 (bsq 27 17) ?_
              refine pu 27 82 (bsq 28 16) ?_
              refine pu 28 83 (bsq 29 15) ?_
              refine pu 30 85 (bls [29, 1, 1, 13]) ?_
              refine tk 29 84 (bsq 31 13) hHeld ?_ (he := by rintro w' ⟨s0, s1, s2, s3, s4, s5, s6, s7⟩; go_simp; with_reducible rfl)
              refine tk 31 86 (bsq 32 12) hHeld ?_ (he := by rintro w' ⟨s0, s1, s2, s3, s4, s5, s6, s7⟩; go_simp; with_reducible rfl)
              refine pu 32 87 (bsq 33 11) ?_
              refine pu 33 88 (bsq 34 10) ?_
              refine pu 34 89 (bsq 35 9) ?_
              refine pu 35 90 (bsq 36 8) ?_
              refine pu 36 91 (bsq 37 7) ?_
              refine pu 37 92 (bsq 38 6) ?_
              refine pu 38 93 (bsq 39 5) ?_
              refine pu 40 95 (bls [39, 1, 1, 3]) ?_
              refine tk 39 94 (bsq 41 3) hHeld ?_ (he := by rintro w' ⟨s0, s1, s2, s3, s4, s5, s6, s7⟩; go_simp; with_reducible rfl)
              refine tk 41 96 (bsq 42 2) hHeld ?_ (he := by rintro w' ⟨s0, s1, s2, s3, s4, s5, s6, s7⟩; go_simp; with_reducible rfl)
              refine pu 42 97 (bsq 43 1) ?_
              refine pu 43 98 (bsq 44 0) ?_
              refine done_ (done_of HT_.out (by kernel_rfl)) ?_
              try go_wp2
              go_ret
              exact ⟨by first | rfl | (simp [errW_none, errW_some] <;> rfl) | (simp [*, errW_none, errW_some] <;> rfl), bs HB.out⟩
             ·
              rw [if_neg c64] at H
              have c64b0 : decide (a1_1 < ((rd_T25 t218 x8_2).f1)) = false := decide_eq_false c64
              clear c64
              have H' := Aside0.mk H
              clear H
              obtain ⟨Ao68, co68, eo68⟩ := Kd.R_slice HO_6.out
              subst eo68
              try go_wp2
              have n0_ := Aside0.mk (Kd.R_drew HO_6.out)
              have n1_ := Aside0.mk (blk_drew BK213.out)
              have n2_ := Aside0.mk (below_drew1 HB.out)
              clear HO_6
              clear BK213
              clear HB
              have HO_6 := n0_
              have BK213 := n1_
              have HB := n2_
              clear n0_ n1_ n2_
              have p225 : 0 ≤ (x8_2 : Int) := of_decide_eq_true (by first | (with_reducible assumption) | assumption)
              have q225 : x8_2 < (t218.length : Int) := of_decide_eq_true (by first | (with_reducible assumption) | assumption)
              obtain ⟨ad225, e225, hx225_0, hx225_1⟩ := at_T25 (Kd.R_reads' HO_6.out).2.2 x8_2 p225 q225
              cases e225
              replace p225 := eq_true p225
              replace q225 := eq_true q225
              have p231 : 0 ≤ (x8_2 : Int) := of_decide_eq_true (by first | (with_reducible assumption) | assumption)
              have q231 : x8_2 < (t218.length : Int) := of_decide_eq_true (by first | (with_reducible assumption) | assumption)
              obtain ⟨ad231, e231, hx231_0, hx231_1⟩ := at_T25 (Kd.R_reads' HO_6.out).2.2 x8_2 p231 q231
              obtain rfl : ad225 = ad231 := (by injection e231)
              replace p231 := eq_true p231
              replace q231 := eq_true q231
              have p232 : 0 ≤ (x8_2 : Int) := of_decide_eq_true (by first | (with_reducible assumption) | assumption)
              have q232 : x8_2 < (t218.length : Int) := of_decide_eq_true (by first | (with_reducible assumption) | assumption)
              obtain ⟨ad232, e232, hx232_0, hx232_1⟩ := at_T25 (Kd.R_reads' HO_6.out).2.2 x8_2 p232 q232
              obtain rfl : ad225 = ad232 := (by injection e232)
              replace p232 := eq_true p232
              replace q232 := eq_true q232
              refine start_ (n := 44) (S := fun w' => w'.cell? ⟨gb213, 0, none⟩ = some (.int .i64 a1_0) ∧ w'.cell? ⟨gb213, 1, none⟩ = some (.int .i64 a1_1) ∧ w'.cell? (ad225.add ((x8_2).toNat * 2)) = some (.int .i64 ((rd_T25 t218 x8_2).f0)) ∧ w'.cell? ⟨(ad225.add ((x8_2).toNat * 2)).block, (ad225.add ((x8_2).toNat * 2)).off + 1, none⟩ = some (.int .i64 ((rd_T25 t218 x8_2).f1)) ∧ w'.cell? (ad225.add ((x8_2).toNat * 2)) = some (.int .i64 ((rd_T25 t218 x8_2).f0)) ∧ w'.cell? ⟨(ad225.add ((x8_2).toNat * 2)).block, (ad225.add ((x8_2).toNat * 2)).off + 1, none⟩ = some (.int .i64 ((rd_T25 t218 x8_2).f1)) ∧ w'.cell? (ad225.add ((x8_2).toNat * 2)) = some (.int .i64 ((rd_T25 t218 x8_2).f0)) ∧ w'.cell? ⟨(ad225.add ((x8_2).toNat * 2)).block, (ad225.add ((x8_2).toNat * 2)).off + 1, none⟩ = some (.int .i64 ((rd_T25 t218 x8_2).f1))) (ds := []) (bsq 0 44) (by kernel_rfl) rfl rfl ⟨(blk_cell BK213.out 0).trans rfl, (blk_cell BK213.out 1).trans rfl, hx225_0, hx225_1, hx231_0, hx231_1, hx232_0, hx232_1⟩ (fun hHeld => ?_); refine with_tabW signalbenchlaw06_SpanApart.tab14 signalbenchlaw06_SpanApart.bits14 (fun HT_ HW_ => ?_)
              generalize wr.drew = w69 at HO_6 BK213 HB hx225_0 hx225_1 hx231_0 hx231_1 hx232_0 hx232_1 hHeld ⊢
              refine pu 0 55 (bsq 1 43) ?_
              refine pu 1 56 (bsq 2 42) ?_
              refine pu 2 57 (bsq 3 41) ?_
              refine tk 3 58 (bsq 4 40) hHeld ?_ (he := by rintro w' ⟨s0, s1, s2, s3, s4, s5, s6, s7⟩; go_simp; with_reducible rfl)
              refine one_ (i := 4) (N := some 59) (bsq 5 39) rfl rfl (one_of HT_.out (by kernel_rfl)) (by decide) (fun K hK => ?_)
              refine goes_ Try.func14 (by kernel_rfl) rfl #[.agg #[.int .i64 ((rd_T25 t218 x8_2).f0), .int .i64 ((rd_T25 t218 x8_2).f1)]] (by rfl) rfl rfl (by (try simp only [List.map_toArray, List.map_cons, List.map_nil]); first | done | rfl | (simp only [List.length_drop, List.length_take]; rfl)) ?_
              with_reducible refine (span_Valid.calls ((rd_T25 t218 x8_2).f0) ((rd_T25 t218 x8_2).f1) true _ A39.out).mono ?_
              rintro e w70 ⟨rfl, hb⟩
              have HS2_ := (hb.cell (World.block_lt_of_cell? _ _ (hHeld.2.2.1))).trans (hHeld.2.2.1)
              have HS3_ := (hb.cell (World.block_lt_of_cell? _ _ (hHeld.2.2.2.1))).trans (hHeld.2.2.2.1)
              have HS4_ := (hb.cell (World.block_lt_of_cell? _ _ (hHeld.2.2.2.2.1))).trans (hHeld.2.2.2.2.1)
              have HS5_ := (hb.cell (World.block_lt_of_cell? _ _ (hHeld.2.2.2.2.2.1))).trans (hHeld.2.2.2.2.2.1)
              have HS6_ := (hb.cell (World.block_lt_of_cell? _ _ (hHeld.2.2.2.2.2.2.1))).trans (hHeld.2.2.2.2.2.2.1)
              have HS7_ := (hb.cell (World.block_lt_of_cell? _ _ (hHeld.2.2.2.2.2.2.2))).trans (hHeld.2.2.2.2.2.2.2)
              refine ⟨_, rfl, ?_⟩
              have n0_ := Aside0.mk (Kd.R_below (rq HO_6.out) hb)
              have n1_ := Aside0.mk (blk_below (bg BK213.out) hb)
              have n2_ := Aside0.mk (below_step (bs HB.out) hb)
              clear HO_6
              clear BK213
              clear HB
              have HO_6 := n0_
              have BK213 := n1_
              have HB := n2_
              clear n0_ n1_ n2_
              (try clear hb)
              (try clear hb2)
              (try clear hk)
              (try clear hi)
              refine hK.out _ _ ⟨(blk_cell BK213.out 0).trans rfl, (blk_cell BK213.out 1).trans rfl, HS2_, HS3_, HS4_, HS5_, HS6_, HS7_⟩ (fun hHeld => ?_)
              clear hK K
              refine norm_ (a' := ?_) ?_ ?_
              rotate_left
              ·
               show Act.put _ (some 59) _ = _
               simp only [Act.put, List.setIfInBounds_toArray, List.set_cons_zero, List.set_cons_succ, i64_w, i32_w]
               rfl
              refine pu 5 60 (bsq 6 38) ?_
              refine pu 6 61 (bsq 7 37) ?_
              refine pu 7 62 (bsq 8 36) ?_
              refine pu 8 63 (bsq 9 35) ?_
              refine pu 9 64 (bsq 10 34) ?_
              refine un 10 65 (bsq 11 33) ?_
              refine un 11 66 (bsq 12 32) ?_
              refine un 12 67 (bsq 13 31) ?_
              refine un 13 68 (bsq 14 30) ?_
              refine un 14 69 (bsq 15 29) ?_
              refine un 15 70 (bsq 16 28) ?_
              refine un 16 71 (bsq 17 27) ?_
              refine un 17 72 (bsq 18 26) ?_
              refine un 18 73 (bsq 19 25) ?_
              refine un 19 74 (bsq 20 24) ?_
              refine un 20 75 (bsq 21 23) ?_
              refine un 21 76 (bsq 22 22) ?_
              refine pu 22 77 (bsq 23 21) ?_
              refine pu 23 78 (bsq 24 20) ?_
              refine pu 24 79 (bsq 25 19) ?_
              refine pu 25 80 (bsq 26 18) ?_
              refine pu 26 81 (bsq 27 17) ?_
              refine pu 27 82 (bsq 28 16) ?_
              refine pu 28 83 (bsq 29 15) ?_
              refine pu 30 85 (bls [29, 1, 1, 13]) ?_
              refine tk 29 84 (bsq 31 13) hHeld ?_ (he := by rintro w' ⟨s0, s1, s2, s3, s4, s5, s6, s7⟩; go_simp; with_reducible rfl)
              refine tk 31 86 (bsq 32 12) hHeld ?_ (he := by rintro w' ⟨s0, s1, s2, s3, s4, s5, s6, s7⟩; go_simp; with_reducible rfl)
              refine pu 32 87 (bsq 33 11) ?_
              refine pu 33 88 (bsq 34 10) ?_
              refine pu 34 89 (bsq 35 9) ?_
              refine pu 35 90 (bsq 36 8) ?_
              refine pu 36 91 (bsq 37 7) ?_
              refine pu 37 92 (bsq 38 6) ?_
              refine pu 38 93 (bsq 39 5) ?_
              refine pu 40 95 (bls [39, 1, 1, 3]) ?_
              refine tk 39 94 (bsq 41 3) hHeld ?_ (he := by rintro w' ⟨s0, s1, s2, s3, s4, s5, s6, s7⟩; go_simp; with_reducible rfl)
              refine tk 41 96 (bsq 42 2) hHeld ?_ (he := by rintro w' ⟨s0, s1, s2, s3, s4, s5, s6, s7⟩; go_simp; with_reducible rfl)
              refine pu 42 97 (bsq 43 1) ?_
              refine pu 43 98 (bsq 44 0) ?_
              refine done_ (done_of HT_.out (by kernel_rfl)) ?_
              try go_wp2
              go_roundg k2
              case measure => have := HK1.out; have := HK2.out; omega
              case rel => exact ⟨(wrap64 (x8_2 + 1)), (by first | rfl | (simp; done) | (simp [*]; done)), H', ⟨by have := HK1.out; have := HK2.out; omega⟩, ⟨by (with_reducible repeat (first | apply Kd.R_alloc | apply Kd.R_drewN | apply Kd.R_drew)); exact HO_6.out⟩, ⟨bg BK213.out⟩, ⟨bs HB.out⟩⟩
          ·
           replace c40 := Bool.eq_false_iff.mpr c40
           subst c40
           have H1 : (some false) = some r := by rw [if_neg (show ¬ (false = true) by decide)] at H; exact H
           clear H
           have H := H1
           clear H1
           obtain rfl := Option.some.inj H
           obtain ⟨Ao71, co71, eo71⟩ := Kd.R_slice HO_6.out
           subst eo71
           try go_wp2
           have n0_ := Aside0.mk (Kd.R_drew HO_6.out)
           have n1_ := Aside0.mk (blk_drew BK213.out)
           have n2_ := Aside0.mk (below_drew1 HB.out)
           clear HO_6
           clear BK213
           clear HB
           have HO_6 := n0_
           have BK213 := n1_
           have HB := n2_
           clear n0_ n1_ n2_
           have p225 : 0 ≤ (x8_2 : Int) := of_decide_eq_true (by first | (with_reducible assumption) | assumption)
           have q225 : x8_2 < (t218.length : Int) := of_decide_eq_true (by first | (with_reducible assumption) | assumption)
           obtain ⟨ad225, e225, hx225_0, hx225_1⟩ := at_T25 (Kd.R_reads' HO_6.out).2.2 x8_2 p225 q225
           cases e225
           replace p225 := eq_true p225
           replace q225 := eq_true q225
           refine start_ (n := 44) (S := fun w' => w'.cell? (ad225.add ((x8_2).toNat * 2)) = some (.int .i64 ((rd_T25 t218 x8_2).f0)) ∧ w'.cell? ⟨(ad225.add ((x8_2).toNat * 2)).block, (ad225.add ((x8_2).toNat * 2)).off + 1, none⟩ = some (.int .i64 ((rd_T25 t218 x8_2).f1))) (ds := []) (bsq 0 44) (by kernel_rfl) rfl rfl ⟨hx225_0, hx225_1⟩ (fun hHeld => ?_); refine with_tabW signalbenchlaw06_SpanApart.tab14 signalbenchlaw06_SpanApart.bits14 (fun HT_ HW_ => ?_)
           generalize wr.drew = w72 at HO_6 BK213 HB hx225_0 hx225_1 hHeld ⊢
           refine pu 0 55 (bsq 1 43) ?_
           refine pu 1 56 (bsq 2 42) ?_
           refine pu 2 57 (bsq 3 41) ?_
           refine tk 3 58 (bsq 4 40) hHeld ?_ (he := by rintro w' ⟨s0, s1⟩; go_simp; with_reducible rfl)
           refine one_ (i := 4) (N := some 59) (bsq 5 39) rfl rfl (one_of HT_.out (by kernel_rfl)) (by decide) (fun K hK => ?_)
           refine goes_ Try.func14 (by kernel_rfl) rfl #[.agg #[.int .i64 ((rd_T25 t218 x8_2).f0), .int .i64 ((rd_T25 t218 x8_2).f1)]] (by rfl) rfl rfl (by (try simp only [List.map_toArray, List.map_cons, List.map_nil]); first | done | rfl | (simp only [List.length_drop, List.length_take]; rfl)) ?_
           with_reducible refine (span_Valid.calls ((rd_T25 t218 x8_2).f0) ((rd_T25 t218 x8_2).f1) false _ A39.out).mono ?_
           rintro e w73 ⟨rfl, hb⟩
           have HS0_ := (hb.cell (World.block_lt_of_cell? _ _ (hHeld.1))).trans (hHeld.1)
           have HS1_ := (hb.cell (World.block_lt_of_cell? _ _ (hHeld.2))).trans (hHeld.2)
           refine ⟨_, rfl, ?_⟩
           have n0_ := Aside0.mk (Kd.R_below (rq HO_6.out) hb)
           have n1_ := Aside0.mk (blk_below (bg BK213.out) hb)
           have n2_ := Aside0.mk (below_step (bs HB.out) hb)
           clear HO_6
           clear BK213
           clear HB
           have HO_6 := n0_
           have BK213 := n1_
           have HB := n2_
           clear n0_ n1_ n2_
           (try clear hb)
           (try clear hb2)
           (try clear hk)
           (try clear hi)
           refine hK.out _ _ ⟨HS0_, HS1_⟩ (fun hHeld => ?_)
           clear hK K
           refine norm_ (a' := ?_) ?_ ?_
           rotate_left
           ·
            show Act.put _ (some 59) _ = _
            simp only [Act.put, List.setIfInBounds_toArray, List.set_cons_zero, List.set_cons_succ, i64_w, i32_w]
            rfl
           refine pu 5 60 (bsq 6 38) ?_
           refine pu 6 61 (bsq 7 37) ?_
           refine un 7 62 (bsq 8 36) ?_
           refine un 8 63 (bsq 9 35) ?_
           refine un 9 64 (bsq 10 34) ?_
           refine un 10 65 (bsq 11 33) ?_
           refine un 11 66 (bsq 12 32) ?_
           refine un 12 67 (bsq 13 31) ?_
           refine un 13 68 (bsq 14 30) ?_
           refine un 14 69 (bsq 15 29) ?_
           refine un 15 70 (bsq 16 28) ?_
           refine un 16 71 (bsq 17 27) ?_
           refine un 17 72 (bsq 18 26) ?_
           refine un 18 73 (bsq 19 25) ?_
           refine un 19 74 (bsq 20 24) ?_
           refine un 20 75 (bsq 21 23) ?_
           refine un 21 76 (bsq 22 22) ?_
           refine un 22 77 (bsq 23 21) ?_
           refine pu 23 78 (bsq 24 20) ?_
           refine pu 24 79 (bsq 25 19) ?_
           refine un 25 80 (bsq 26 18) ?_
           refine un 26 81 (bsq 27 17) ?_
           refine un 27 82 (bsq 28 16) ?_
           refine un 28 83 (bsq 29 15) ?_
           refine un 29 84 (bsq 30 14) ?_
           refine un 30 85 (bsq 31 13) ?_
           refine un 31 86 (bsq 32 12) ?_
           refine un 32 87 (bsq 33 11) ?_
           refine pu 33 88 (bsq 34 10) ?_
           refine pu 34 89 (bsq 35 9) ?_
           refine un 35 90 (bsq 36 8) ?_
           refine un 36 91 (bsq 37 7) ?_
           refine un 37 92 (bsq 38 6) ?_
           refine un 38 93 (bsq 39 5) ?_
           refine un 39 94 (bsq 40 4) ?_
           refine un 40 95 (bsq 41 3) ?_
           refine un 41 96 (bsq 42 2) ?_
           refine un 42 97 (bsq 43 1) ?_
           refine pu 43 98 (bsq 44 0) ?_
           refine done_ (done_of HT_.out (by kernel_rfl)) ?_
           try go_wp2
           go_ret
           exact ⟨by first | rfl | (simp [errW_none, errW_some] <;> rfl) | (simp [*, errW_none, errW_some] <;> rfl), bs HB.out⟩
         ·
          rw [if_neg c38] at H
          exact absurd H (by simp)
        ·
         rw [if_neg c37] at H
         have c37b0 : decide (x8_2 < (t218.length : Int)) = false := decide_eq_false c37
         clear c37
         obtain rfl := Option.some.inj H
         obtain ⟨Ao74, co74, eo74⟩ := Kd.R_slice HO_6.out
         subst eo74
         go_wp2
         go_ret
         exact ⟨by first | rfl | (simp [errW_none, errW_some] <;> rfl) | (simp [*, errW_none, errW_some] <;> rfl), bs HB.out⟩
 ·
  replace c4 := Bool.eq_false_iff.mpr c4
  subst c4
  have H1 : (some false) = some r := by rw [if_neg (show ¬ (false = true) by decide)] at H; exact H
  clear H
  have H := H1
  clear H1
  obtain rfl := Option.some.inj H
  go_enter Try.func6, Try.ntmps6
  go_wp2_with (first | ((with_reducible refine gate_dst (N := 3) rfl ?_); refine box_event ?hg (N := 3) ?hd (cs := #[.int .i64 a1_0, .int .i64 a1_1]) (t := 25) ?hr ?_; (case hd => rfl); (case hg => rfl); (case hr => first | (go_simp; done) | (go_simp; rfl)); intro gb213 hg w75 hbox hb; have n0_ := Aside0.mk (below_step (bs HB.out) hb); have n1_ := Aside0.mk (hbox); have n2_ := Aside0.mk ((by rw [hg]; exact (below_size (bs HB.out)) : w.heap.size ≤ gb213)); have n3_ := n2_; clear HB; have HB := n0_; have BK213 := n1_; have GW213 := n2_; have GE213 := n3_; clear n0_ n1_ n2_ n3_; clear hb hbox hg) | ((with_reducible refine gate_callee (f := 9) rfl ?_); refine goesL_ (some 9) rfl rfl Try.func9 (by kernel_rfl) rfl #[] rfl (by (try simp only [List.map_toArray, List.map_cons, List.map_nil]); first | done | rfl | (simp only [List.length_drop, List.length_take]; rfl)) ?_; (with_reducible refine (signalbenchlaw06_lives.calls  false _ A3.out).mono ?_); rintro e w76 ⟨rfl, hb⟩; refine ⟨_, rfl, ?_⟩; have n0_ := Aside0.mk (blk_below (bg BK213.out) hb); have n1_ := Aside0.mk (below_step (bs HB.out) hb); clear BK213; clear HB; have BK213 := n0_; have HB := n1_; clear n0_ n1_; (try clear hb); (try clear hb2); (try clear hk); (try clear hi)))
  go_ret
  exact ⟨by first | rfl | (simp [errW_none, errW_some] <;> rfl) | (simp [*, errW_none, errW_some] <;> rfl), bs HB.out⟩

end Go.Proofs.Ytejmegaalfblmaa.H
