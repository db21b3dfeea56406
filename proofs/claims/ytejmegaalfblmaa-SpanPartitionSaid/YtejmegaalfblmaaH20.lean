-- Printed by wip/hprint.py (this project's own driver of the kit's print) out of the translation; Lean checks it.
import Derived.Test.YtejmegaalfblmaaH0
import Derived.Test.YtejmegaalfblmaaH3
import Derived.Test.YtejmegaalfblmaaH4
import Derived.Test.YtejmegaalfblmaaH9
import Derived.Test.YtejmegaalfblmaaH17
import Derived.Test.YtejmegaalfblmaaH19
import Derived.Test.YtejmegaalfblmaaHJoin
namespace Go.Proofs.Ytejmegaalfblmaa.H
open Go.RowKit Go.Proofs.YtejmegaalfblmaaW.PrintWords Go.Proofs.YtejmegaalfblmaaW.PrintLast Go.Proofs.YtejmegaalfblmaaW.PrintMore
attribute [local go_sem] max2_int min2_int max_two min_two max_three min_three max_four min_four   -- for this text's walks alone
set_option linter.unusedVariables false
set_option linter.unusedSimpArgs false

/-! ### signalbenchlaw06_SpanPartition: function 7 -/
def signalbenchlaw06_SpanPartition.j0 : Nat → List (S25) → Int → Bool → Int → Int → Option (Bool)
 | 0, _, _, _, _, _ => none
 | k + 1, x0, x2, x31, x236000, x236001 => if x31 = true then (some true) else ((span_Join.f x0).bind fun t238 => ((span_Gaps.f k x0 x236000 x236001).bind fun t241 => ((span_Find.f k x0 x2).bind fun t244 => (if t244 ≥ 0 then ((signalbenchlaw06_count.f k t238 x2).bind fun t245 => (if t245 = 1 then ((signalbenchlaw06_count.f k t241 x2).bind fun t246 => (some (t246 == (1 - 1)))) else (some false))) else ((signalbenchlaw06_count.f k t238 x2).bind fun t247 => (if t247 = 0 then ((signalbenchlaw06_count.f k t241 x2).bind fun t248 => (some (t248 == (1 - 0)))) else (some false)))))))
def signalbenchlaw06_SpanPartition.f (k : Nat) (l0 : List (S25)) (a1_0 : Int) (a1_1 : Int) (a2 : Int) : Option (Bool) := (signalbenchlaw06_lives.f).bind fun t236 => (if t236 = true then (if (l0.length : Int) > 200 then (signalbenchlaw06_SpanPartition.j0 k l0 a2 true a1_0 a1_1) else ((span_Valid.f a1_0 a1_1).bind fun t237 => (if t237 = true then (if a2 < a1_0 then (signalbenchlaw06_SpanPartition.j0 k l0 a2 true a1_0 a1_1) else (signalbenchlaw06_SpanPartition.j0 k l0 a2 (decide (a2 ≥ a1_1)) a1_0 a1_1)) else (signalbenchlaw06_SpanPartition.j0 k l0 a2 true a1_0 a1_1)))) else (some false))
theorem signalbenchlaw06_SpanPartition.mono_l : ∀ k, (∀ y0 y1 y2 y3 y4, LeO (signalbenchlaw06_SpanPartition.j0 k y0 y1 y2 y3 y4) (signalbenchlaw06_SpanPartition.j0 (k + 1) y0 y1 y2 y3 y4))
 | 0 => fun _ _ _ _ _ r h => by simp [signalbenchlaw06_SpanPartition.j0] at h
 | k + 1 => by
  have ih0 := signalbenchlaw06_SpanPartition.mono_l k
  ·
   intro y0 y1 y2 y3 y4
   unfold signalbenchlaw06_SpanPartition.j0
   repeat' first
   | (with_reducible exact ih0 _ _ _ _ _)
   | (with_reducible exact signalbenchlaw06_count.mono _ _ _)
   | (with_reducible exact span_Find.mono _ _ _)
   | (with_reducible exact span_Gaps.mono _ _ _ _)
   | (with_reducible exact LeO.refl _)
   | (with_reducible exact LeO.none _)
   | (with_reducible refine LeO.ite ?_ ?_)
   | (with_reducible refine LeO.bind ?_ (fun _ => ?_))
   | exact ih0 _ _ _ _ _
   | exact signalbenchlaw06_count.mono _ _ _
   | exact span_Find.mono _ _ _
   | exact span_Gaps.mono _ _ _ _
   | exact LeO.none _
   | refine LeO.ite ?_ ?_
   | refine LeO.bind ?_ (fun _ => ?_)
theorem signalbenchlaw06_SpanPartition.mono : ∀ a0 a1 a2 a3 k, LeO (signalbenchlaw06_SpanPartition.f k a0 a1 a2 a3) (signalbenchlaw06_SpanPartition.f (k + 1) a0 a1 a2 a3) := by
 intro a0 a1 a2 a3 k
 have ih0 := signalbenchlaw06_SpanPartition.mono_l k
 unfold signalbenchlaw06_SpanPartition.f
 repeat' first
   | (with_reducible exact ih0 _ _ _ _ _)
   | (with_reducible exact signalbenchlaw06_count.mono _ _ _)
   | (with_reducible exact span_Find.mono _ _ _)
   | (with_reducible exact span_Gaps.mono _ _ _ _)
   | (with_reducible exact LeO.refl _)
   | (with_reducible exact LeO.none _)
   | (with_reducible refine LeO.ite ?_ ?_)
   | (with_reducible refine LeO.bind ?_ (fun _ => ?_))
   | exact ih0 _ _ _ _ _
   | exact signalbenchlaw06_count.mono _ _ _
   | exact span_Find.mono _ _ _
   | exact span_Gaps.mono _ _ _ _
   | exact LeO.none _
   | refine LeO.ite ?_ ?_
   | refine LeO.bind ?_ (fun _ => ?_)
set_option maxHeartbeats 8000000 in
set_option maxRecDepth 100000 in
theorem signalbenchlaw06_SpanPartition.calls (k : Nat) (A0 : Option Addr) (c0 : Nat) (l0 : List (S25)) (a1_0 : Int) (a1_1 : Int) (a2 : Int) (r : Bool) (w : World) (hr0 : Kd.C k25 w A0 l0.length l0) (hc0 : l0.length ≤ c0) (h : signalbenchlaw06_SpanPartition.f k l0 a1_0 a1_1 a2 = some r) :
  Calls Try.prog 7 #[.slice A0 l0.length c0, .agg #[.int .i64 a1_0, .int .i64 a1_1], .int .i64 a2] w fun e w' => e = .returned (.bool r) ∧ Below w.heap.size w w' := by
 have hu25 := Try.underlying25
 have HR0 := Aside0.mk hr0
 have HC0 := Aside0.mk hc0
 clear hr0 hc0
 have HB := Aside0.mk (Below.refl w.heap.size w)
 have H : ((signalbenchlaw06_lives.f).bind fun t236 => (if t236 = true then (if (l0.length : Int) > 200 then (signalbenchlaw06_SpanPartition.j0 k l0 a2 true a1_0 a1_1) else ((span_Valid.f a1_0 a1_1).bind fun t237 => (if t237 = true then (if a2 < a1_0 then (signalbenchlaw06_SpanPartition.j0 k l0 a2 true a1_0 a1_1) else (signalbenchlaw06_SpanPartition.j0 k l0 a2 (decide (a2 ≥ a1_1)) a1_0 a1_1)) else (signalbenchlaw06_SpanPartition.j0 k l0 a2 true a1_0 a1_1)))) else (some false))) = some r := h
 clear h
 replace H := Option.bind_eq_some_iff.mp H
 obtain ⟨t236, A40, H⟩ := H
 replace H : (if t236 = true then (if (l0.length : Int) > 200 then (signalbenchlaw06_SpanPartition.j0 k l0 a2 true a1_0 a1_1) else ((span_Valid.f a1_0 a1_1).bind fun t237 => (if t237 = true then (if a2 < a1_0 then (signalbenchlaw06_SpanPartition.j0 k l0 a2 true a1_0 a1_1) else (signalbenchlaw06_SpanPartition.j0 k l0 a2 (decide (a2 ≥ a1_1)) a1_0 a1_1)) else (signalbenchlaw06_SpanPartition.j0 k l0 a2 true a1_0 a1_1)))) else (some false)) = some r := H
 have A4 := Aside0.mk A40
 clear A40
 by_cases c5 : t236 = true
 ·
  subst c5
  have H1 : (if (l0.length : Int) > 200 then (signalbenchlaw06_SpanPartition.j0 k l0 a2 true a1_0 a1_1) else ((span_Valid.f a1_0 a1_1).bind fun t237 => (if t237 = true then (if a2 < a1_0 then (signalbenchlaw06_SpanPartition.j0 k l0 a2 true a1_0 a1_1) else (signalbenchlaw06_SpanPartition.j0 k l0 a2 (decide (a2 ≥ a1_1)) a1_0 a1_1)) else (signalbenchlaw06_SpanPartition.j0 k l0 a2 true a1_0 a1_1)))) = some r := by rw [if_pos rfl] at H; exact H
  clear H
  have H := H1
  clear H1
  have HC6 := Aside0.mk H
  clear H
  go_enter Try.func7, Try.ntmps7
  go_upto_region 3 with (first | ((with_reducible refine gate_dst (N := 4) rfl ?_); refine box_event ?hg (N := 4) ?hd (cs := #[.int .i64 a1_0, .int .i64 a1_1]) (t := 25) ?hr ?_; (case hd => rfl); (case hg => rfl); (case hr => first | (go_simp; done) | (go_simp; rfl)); intro gb235 hg w7 hbox hb; have n0_ := Aside0.mk (below_step (bs HB.out) hb); have n1_ := Aside0.mk (hbox); have n2_ := Aside0.mk ((by rw [hg]; exact (below_size (bs HB.out)) : w.heap.size ≤ gb235)); have n3_ := n2_; clear HB; have HB := n0_; have BK235 := n1_; have GW235 := n2_; have GE235 := n3_; clear n0_ n1_ n2_ n3_; clear hb hbox hg) | ((with_reducible refine gate_callee (f := 9) rfl ?_); refine goesL_ (some 10) rfl rfl Try.func9 (by kernel_rfl) rfl #[] rfl (by (try simp only [List.map_toArray, List.map_cons, List.map_nil]); first | done | rfl | (simp only [List.length_drop, List.length_take]; rfl)) ?_; (with_reducible refine (signalbenchlaw06_lives.calls  true _ A4.out).mono ?_); rintro e w8 ⟨rfl, hb⟩; refine ⟨_, rfl, ?_⟩; have n0_ := Aside0.mk (blk_below (bg BK235.out) hb); have n1_ := Aside0.mk (below_step (bs HB.out) hb); clear BK235; clear HB; have BK235 := n0_; have HB := n1_; clear n0_ n1_; (try clear hb); (try clear hb2); (try clear hk); (try clear hi)))
  (try simp only [Act.put, List.setIfInBounds_toArray, List.set_cons_zero, List.set_cons_succ])
  go_cut [31] (fun v31 wc => ∃ (kq : Nat) (x31_5 : Bool), v31 = .bool x31_5 ∧ Aside0 (signalbenchlaw06_SpanPartition.j0 kq l0 a2 x31_5 a1_0 a1_1 = some r) ∧ Aside0 (kq ≤ k) ∧ Aside0 (wc.heap[gb235]? = some (.cells #[.int .i64 a1_0, .int .i64 a1_1] 25 (0, 0))) ∧ Aside0 (Below w.heap.size w wc))
  case first =>
   have H := HC6.out
   clear HC6
   by_cases c9 : (l0.length : Int) > 200
   ·
    rw [if_pos c9] at H
    have c9b0 : decide (200 < (l0.length : Int)) = true := decide_eq_true c9
    have c9b1 : decide (200 < l0.length) = true := decide_eq_true (by omega)
    clear c9
    (first | rw [c9b0] | (simp only [i64_w, i32_w]; rw [c9b0]) | skip)
    have H' := Aside0.mk H
    clear H
    go_wp2
    go_meet
    case rel => exact ⟨_, (true), (by first | rfl | (simp; done) | (simp [*]; done)), H', ⟨by first | omega | exact Nat.le_refl _⟩, ⟨bg BK235.out⟩, ⟨bs HB.out⟩⟩
   ·
    rw [if_neg c9] at H
    have c9b0 : decide (200 < (l0.length : Int)) = false := decide_eq_false c9
    have c9b1 : decide (200 < l0.length) = false := decide_eq_false (by omega)
    clear c9
    (first | rw [c9b0] | (simp only [i64_w, i32_w]; rw [c9b0]) | skip)
    replace H := Option.bind_eq_some_iff.mp H
    obtain ⟨t237, A100, H⟩ := H
    replace H : (if t237 = true then (if a2 < a1_0 then (signalbenchlaw06_SpanPartition.j0 k l0 a2 true a1_0 a1_1) else (signalbenchlaw06_SpanPartition.j0 k l0 a2 (decide (a2 ≥ a1_1)) a1_0 a1_1)) else (signalbenchlaw06_SpanPartition.j0 k l0 a2 true a1_0 a1_1)) = some r := H
    have A10 := Aside0.mk A100
    clear A100
    by_cases c11 : t237 = true
    ·
     subst c11
     have H1 : (if a2 < a1_0 then (signalbenchlaw06_SpanPartition.j0 k l0 a2 true a1_0 a1_1) else (signalbenchlaw06_SpanPartition.j0 k l0 a2 (decide (a2 ≥ a1_1)) a1_0 a1_1)) = some r := by rw [if_pos rfl] at H; exact H
     clear H
     have H := H1
     clear H1
     by_cases c12 : a2 < a1_0
     ·
      rw [if_pos c12] at H
      have c12b0 : decide (a2 < a1_0) = true := decide_eq_true c12
      clear c12
      have H' := Aside0.mk H
      clear H
      obtain ⟨hcz13_0, hcz13_1⟩ := bc2 BK235.out
      obtain ⟨hfz13_0, hfz13_1⟩ := bf2 BK235.out
      go_wp2_with (first | (go_at_call 14; (with_reducible refine (span_Valid.calls a1_0 a1_1 true _ A10.out).mono ?_); rintro e w14 ⟨rfl, hb⟩; have n0_ := Aside0.mk (blk_below (bg BK235.out) hb); have n1_ := Aside0.mk (below_step (bs HB.out) hb); clear BK235; clear HB; have BK235 := n0_; have HB := n1_; clear n0_ n1_; (try clear hb); (try clear hb2); (try clear hk); (try clear hi); obtain ⟨hcz15_0, hcz15_1⟩ := bc2 BK235.out; obtain ⟨hfz15_0, hfz15_1⟩ := bf2 BK235.out))
      go_meet
      case rel => exact ⟨_, (true), (by first | rfl | (simp; done) | (simp [*]; done)), H', ⟨by first | omega | exact Nat.le_refl _⟩, ⟨bg BK235.out⟩, ⟨bs HB.out⟩⟩
     ·
      rw [if_neg c12] at H
      have c12b0 : decide (a2 < a1_0) = false := decide_eq_false c12
      clear c12
      have H' := Aside0.mk H
      clear H
      obtain ⟨hcz16_0, hcz16_1⟩ := bc2 BK235.out
      obtain ⟨hfz16_0, hfz16_1⟩ := bf2 BK235.out
      go_wp2_with (first | (go_at_call 14; (with_reducible refine (span_Valid.calls a1_0 a1_1 true _ A10.out).mono ?_); rintro e w17 ⟨rfl, hb⟩; have n0_ := Aside0.mk (blk_below (bg BK235.out) hb); have n1_ := Aside0.mk (below_step (bs HB.out) hb); clear BK235; clear HB; have BK235 := n0_; have HB := n1_; clear n0_ n1_; (try clear hb); (try clear hb2); (try clear hk); (try clear hi); obtain ⟨hcz18_0, hcz18_1⟩ := bc2 BK235.out; obtain ⟨hfz18_0, hfz18_1⟩ := bf2 BK235.out))
      go_meet
      case rel => exact ⟨_, (decide (a2 ≥ a1_1)), (by first | rfl | (simp; done) | (simp [*]; done)), H', ⟨by first | omega | exact Nat.le_refl _⟩, ⟨bg BK235.out⟩, ⟨bs HB.out⟩⟩
    ·
     replace c11 := Bool.eq_false_iff.mpr c11
     subst c11
     have H1 : (signalbenchlaw06_SpanPartition.j0 k l0 a2 true a1_0 a1_1) = some r := by rw [if_neg (show ¬ (false = true) by decide)] at H; exact H
     clear H
     have H := H1
     clear H1
     have H' := Aside0.mk H
     clear H
     obtain ⟨hcz19_0, hcz19_1⟩ := bc2 BK235.out
     obtain ⟨hfz19_0, hfz19_1⟩ := bf2 BK235.out
     go_wp2_with (first | (go_at_call 14; (with_reducible refine (span_Valid.calls a1_0 a1_1 false _ A10.out).mono ?_); rintro e w20 ⟨rfl, hb⟩; have n0_ := Aside0.mk (blk_below (bg BK235.out) hb); have n1_ := Aside0.mk (below_step (bs HB.out) hb); clear BK235; clear HB; have BK235 := n0_; have HB := n1_; clear n0_ n1_; (try clear hb); (try clear hb2); (try clear hk); (try clear hi)))
     go_meet
     case rel => exact ⟨_, (true), (by first | rfl | (simp; done) | (simp [*]; done)), H', ⟨by first | omega | exact Nat.le_refl _⟩, ⟨bg BK235.out⟩, ⟨bs HB.out⟩⟩
  case rest =>
   clear HC6
   try clear c1
   try clear p2
   try clear c5
   try clear c7
   try clear c9
   try clear c9b0
   try clear c9b1
   try clear c11
   try clear c12
   try clear c12b0
   try clear hcz13_0 hcz13_1
   try clear hcz15_0 hcz15_1
   try clear hcz16_0 hcz16_1
   try clear hcz18_0 hcz18_1
   try clear hcz19_0 hcz19_1
   try clear hfz13_0 hfz13_1
   try clear hfz15_0 hfz15_1
   try clear hfz16_0 hfz16_1
   try clear hfz18_0 hfz18_1
   try clear hfz19_0 hfz19_1
   obtain ⟨kq, x31_5, rfl, HA, HJ5, BK235, HB⟩ := hcut
   cases kq with
   | zero => exact absurd HA.out (by simp [signalbenchlaw06_SpanPartition.j0])
   | succ kj5 =>
    have H := HA.out
    clear HA
    simp only [signalbenchlaw06_SpanPartition.j0] at H
    by_cases c21 : x31_5 = true
    ·
     subst c21
     have H1 : (some true) = some r := by rw [if_pos rfl] at H; exact H
     clear H
     have H := H1
     clear H1
     obtain rfl := Option.some.inj H
     go_wp2
     go_ret
     exact ⟨by first | rfl | (simp [errW_none, errW_some] <;> rfl) | (simp [*, errW_none, errW_some] <;> rfl), bs HB.out⟩
    ·
     replace c21 := Bool.eq_false_iff.mpr c21
     subst c21
     have H1 : ((span_Join.f l0).bind fun t238 => ((span_Gaps.f kj5 l0 a1_0 a1_1).bind fun t241 => ((span_Find.f kj5 l0 a2).bind fun t244 => (if t244 ≥ 0 then ((signalbenchlaw06_count.f kj5 t238 a2).bind fun t245 => (if t245 = 1 then ((signalbenchlaw06_count.f kj5 t241 a2).bind fun t246 => (some (t246 == (1 - 1)))) else (some false))) else ((signalbenchlaw06_count.f kj5 t238 a2).bind fun t247 => (if t247 = 0 then ((signalbenchlaw06_count.f kj5 t241 a2).bind fun t248 => (some (t248 == (1 - 0)))) else (some false))))))) = some r := by rw [if_neg (show ¬ (false = true) by decide)] at H; exact H
     clear H
     have H := H1
     clear H1
     replace H := Option.bind_eq_some_iff.mp H
     obtain ⟨t238, A220, H⟩ := H
     replace H : ((span_Gaps.f kj5 l0 a1_0 a1_1).bind fun t241 => ((span_Find.f kj5 l0 a2).bind fun t244 => (if t244 ≥ 0 then ((signalbenchlaw06_count.f kj5 t238 a2).bind fun t245 => (if t245 = 1 then ((signalbenchlaw06_count.f kj5 t241 a2).bind fun t246 => (some (t246 == (1 - 1)))) else (some false))) else ((signalbenchlaw06_count.f kj5 t238 a2).bind fun t247 => (if t247 = 0 then ((signalbenchlaw06_count.f kj5 t241 a2).bind fun t248 => (some (t248 == (1 - 0)))) else (some false)))))) = some r := H
     have A22 := Aside0.mk A220
     clear A220
     replace H := Option.bind_eq_some_iff.mp H
     obtain ⟨t241, A230, H⟩ := H
     replace H : ((span_Find.f kj5 l0 a2).bind fun t244 => (if t244 ≥ 0 then ((signalbenchlaw06_count.f kj5 t238 a2).bind fun t245 => (if t245 = 1 then ((signalbenchlaw06_count.f kj5 t241 a2).bind fun t246 => (some (t246 == (1 - 1)))) else (some false))) else ((signalbenchlaw06_count.f kj5 t238 a2).bind fun t247 => (if t247 = 0 then ((signalbenchlaw06_count.f kj5 t241 a2).bind fun t248 => (some (t248 == (1 - 0)))) else (some false))))) = some r := H
     have A23 := Aside0.mk A230
     clear A230
     replace H := Option.bind_eq_some_iff.mp H
     obtain ⟨t244, A240, H⟩ := H
     replace H : (if t244 ≥ 0 then ((signalbenchlaw06_count.f kj5 t238 a2).bind fun t245 => (if t245 = 1 then ((signalbenchlaw06_count.f kj5 t241 a2).bind fun t246 => (some (t246 == (1 - 1)))) else (some false))) else ((signalbenchlaw06_count.f kj5 t238 a2).bind fun t247 => (if t247 = 0 then ((signalbenchlaw06_count.f kj5 t241 a2).bind fun t248 => (some (t248 == (1 - 0)))) else (some false)))) = some r := H
     have A24 := Aside0.mk A240
     clear A240
     by_cases c25 : t244 ≥ 0
     ·
      rw [if_pos c25] at H
      have c25b0 : decide (0 ≤ t244) = true := decide_eq_true c25
      clear c25
      replace H := Option.bind_eq_some_iff.mp H
      obtain ⟨t245, A260, H⟩ := H
      replace H : (if t245 = 1 then ((signalbenchlaw06_count.f kj5 t241 a2).bind fun t246 => (some (t246 == (1 - 1)))) else (some false)) = some r := H
      have A26 := Aside0.mk A260
      clear A260
      by_cases c27 : t245 = 1
      ·
       rw [if_pos c27] at H
       have c27b0 : (t245 == 1) = true := beq_iff_eq.mpr c27
       have c27b1 : (t245 != 1) = false := bne_eq_false_iff_eq.mpr c27
       clear c27
       replace H := Option.bind_eq_some_iff.mp H
       obtain ⟨t246, A280, H⟩ := H
       replace H : (some (t246 == (1 - 1))) = some r := H
       have A28 := Aside0.mk A280
       clear A280
       obtain rfl := Option.some.inj H
       try go_wp2
       have n0_ := Aside0.mk (blk_drew BK235.out)
       have n1_ := Aside0.mk (below_drew1 HB.out)
       clear BK235
       clear HB
       have BK235 := n0_
       have HB := n1_
       clear n0_ n1_
       refine start_ (n := 7) (S := fun w' => w'.cell? ⟨gb235, 0, none⟩ = some (.int .i64 a1_0) ∧ w'.cell? ⟨gb235, 1, none⟩ = some (.int .i64 a1_1)) (ds := []) (bsq 0 7) (by kernel_rfl) rfl rfl ⟨(blk_cell BK235.out 0).trans rfl, (blk_cell BK235.out 1).trans rfl⟩ (fun hHeld => ?_)
       generalize wc.drew = w29 at BK235 HB hHeld ⊢
       refine puk 0 32 (bsq 1 6) ?_
       refine puk 2 34 (bls [1, 1, 1, 4]) ?_
       refine tkk 3 35 (bls [1, 1, 2, 3]) hHeld ?_ (he := by rintro w' ⟨s0, s1⟩; go_simp; with_reducible rfl)
       refine one_ (i := 1) (N := some 33) (bsq 4 3) rfl rfl (by kernel_rfl) (by decide) (fun K hK => ?_)
       refine goes_ Try.func10 (by kernel_rfl) rfl #[.slice A0 l0.length c0] (by rfl) rfl rfl (by (try simp only [List.map_toArray, List.map_cons, List.map_nil]); first | done | rfl | (simp only [List.length_drop, List.length_take]; rfl)) ?_
       with_reducible refine (span_Join.calls _ _ l0 t238 _ ?side1 ?side2 A22.out).mono ?_
       (case side1 => repeat (first | exact (Kd.C_below HR0.out HB.out) | (with_reducible refine Kd.C_alloc ?_ _) | (with_reducible refine Kd.C_drewN ?_ _) | (with_reducible refine Kd.C_drew ?_)))
       (case side2 => exact HC0.out)
       rintro e w30 ⟨v239, rfl, ho0, hb⟩
       refine ⟨_, rfl, ?_⟩
       have n0_ := Aside0.mk (Kd.R_lower (Kd.R_newB ho0 (g := gb235) (o := .cells #[.int .i64 a1_0, .int .i64 a1_1] 25 (0, 0)) (bg BK235.out)) (below_size (bs HB.out)))
       have n1_ := Aside0.mk (blk_below (bg BK235.out) hb)
       have n2_ := Aside0.mk (below_step (bs HB.out) hb)
       clear BK235
       clear HB
       have HO240 := n0_
       have BK235 := n1_
       have HB := n2_
       clear n0_ n1_ n2_
       (try clear hb)
       (try clear hb2)
       (try clear hk)
       (try clear hi)
       (try clear ho0)
       refine hK.out _ _ ⟨(blk_cell BK235.out 0).trans rfl, (blk_cell BK235.out 1).trans rfl⟩ (fun hHeld => ?_)
       clear hK K
       refine norm_ (a' := ?_) ?_ ?_
       rotate_left
       ·
        show Act.put _ (some 33) _ = _
        simp only [Act.put, List.setIfInBounds_toArray, List.set_cons_zero, List.set_cons_succ, i64_w, i32_w]
        rfl
       refine one_ (i := 4) (N := some 36) (bsq 5 2) rfl rfl (by kernel_rfl) (by decide) (fun K hK => ?_)
       refine goes_ Try.func20 (by kernel_rfl) rfl #[.slice A0 l0.length c0, .agg #[.int .i64 a1_0, .int .i64 a1_1]] (by rfl) rfl rfl (by (try simp only [List.map_toArray, List.map_cons, List.map_nil]); first | done | rfl | (simp only [List.length_drop, List.length_take]; rfl)) ?_
       with_reducible refine (span_Gaps.calls kj5 _ _ l0 a1_0 a1_1 t241 _ ?side1 ?side2 A23.out).mono ?_
       (case side1 => repeat (first | exact (Kd.C_below HR0.out HB.out) | (with_reducible refine Kd.C_alloc ?_ _) | (with_reducible refine Kd.C_drewN ?_ _) | (with_reducible refine Kd.C_drew ?_)))
       (case side2 => exact HC0.out)
       rintro e w31 ⟨v242, rfl, ho0, hb⟩
       refine ⟨_, rfl, ?_⟩
       have n0_ := Aside0.mk (Kd.R_elder' (rq HO240.out) (Kd.R_base ho0) hb)
       have n1_ := Aside0.mk (Kd.R_lower (Kd.R_newB (Kd.R_new' ho0 (Kd.R_lt (rq HO240.out))) (g := gb235) (o := .cells #[.int .i64 a1_0, .int .i64 a1_1] 25 (0, 0)) (bg BK235.out)) (below_size (bs HB.out)))
       have n2_ := Aside0.mk (blk_below (bg BK235.out) hb)
       have n3_ := Aside0.mk (below_step (bs HB.out) hb)
       clear HO240
       clear BK235
       clear HB
       have HO240 := n0_
       have HO243 := n1_
       have BK235 := n2_
       have HB := n3_
       clear n0_ n1_ n2_ n3_
       (try clear hb)
       (try clear hb2)
       (try clear hk)
       (try clear hi)
       (try clear ho0)
       refine hK.out _ _ ⟨(blk_cell BK235.out 0).trans rfl, (blk_cell BK235.out 1).trans rfl⟩ (fun hHeld => ?_)
       clear hK K
       refine norm_ (a' := ?_) ?_ ?_
       rotate_left
       ·
        show Act.put _ (some 36) _ = _
        simp only [Act.put, List.setIfInBounds_toArray, List.set_cons_zero, List.set_cons_succ, i64_w, i32_w]
        rfl
       refine puk 5 7 (bsq 6 1) ?_
       refine puk 6 8 (bsq 7 0) ?_
       refine done_ (by kernel_rfl) ?_
       try go_wp2_with (first | ((with_reducible refine gate_callee (f := 13) rfl ?_); refine goesL_ (some 39) rfl rfl Try.func13 (by kernel_rfl) rfl #[.slice A0 l0.length c0, .int .i64 a2] rfl (by (try simp only [List.map_toArray, List.map_cons, List.map_nil]); first | done | rfl | (simp only [List.length_drop, List.length_take]; rfl)) ?_; (with_reducible refine (span_Find.calls kj5 _ _ l0 a2 t244 _ ?side1 ?side2 A24.out).mono ?_); (case side1 => repeat (first | exact (Kd.C_below HR0.out HB.out) | (with_reducible refine Kd.C_alloc ?_ _) | (with_reducible refine Kd.C_drewN ?_ _) | (with_reducible refine Kd.C_drew ?_))); (case side2 => exact HC0.out); rintro e w32 ⟨rfl, hb⟩; refine ⟨_, rfl, ?_⟩; have n0_ := Aside0.mk (Kd.R_below (rq HO240.out) hb); have n1_ := Aside0.mk (Kd.R_below (rq HO243.out) hb); have n2_ := Aside0.mk (blk_below (bg BK235.out) hb); have n3_ := Aside0.mk (below_step (bs HB.out) hb); clear HO240; clear HO243; clear BK235; clear HB; have HO240 := n0_; have HO243 := n1_; have BK235 := n2_; have HB := n3_; clear n0_ n1_ n2_ n3_; (try clear hb); (try clear hb2); (try clear hk); (try clear hi); obtain ⟨Ao33, co33, eo33⟩ := Kd.R_slice HO240.out; subst eo33) | ((with_reducible refine gate_callee (f := 21) rfl ?_); refine goesL_ (some 43) rfl rfl Try.func21 (by kernel_rfl) rfl #[.slice Ao33 t238.length co33, .int .i64 a2] rfl (by (try simp only [List.map_toArray, List.map_cons, List.map_nil]); first | done | rfl | (simp only [List.length_drop, List.length_take]; rfl)) ?_; (with_reducible refine (signalbenchlaw06_count.calls kj5 _ _ t238 a2 t245 _ ?side1 ?side2 A26.out).mono ?_); (case side1 => repeat (first | exact (Kd.R_reads' HO240.out).2.2 | (with_reducible refine Kd.C_alloc ?_ _) | (with_reducible refine Kd.C_drewN ?_ _) | (with_reducible refine Kd.C_drew ?_))); (case side2 => exact (Kd.R_reads' HO240.out).2.1); rintro e w' ⟨rfl, ⟨nd, rfl⟩⟩; refine ⟨_, rfl, ?_⟩; obtain ⟨Ao34, co34, eo34⟩ := Kd.R_slice HO243.out; subst eo34) | (go_at_call 21; (with_reducible refine (signalbenchlaw06_count.calls kj5 _ _ t241 a2 t246 _ ?side1 ?side2 A28.out).mono ?_); (case side1 => repeat (first | exact (Kd.R_reads' HO243.out).2.2 | (with_reducible refine Kd.C_alloc ?_ _) | (with_reducible refine Kd.C_drewN ?_ _) | (with_reducible refine Kd.C_drew ?_))); (case side2 => exact (Kd.R_reads' HO243.out).2.1); rintro e w' ⟨rfl, ⟨nd, rfl⟩⟩))
       go_ret
       exact ⟨by first | rfl | (simp [errW_none, errW_some] <;> rfl) | (simp [*, errW_none, errW_some] <;> rfl), bs HB.out⟩
      ·
       rw [if_neg c27] at H
       have c27b0 : (t245 == 1) = false := beq_eq_false_iff_ne.mpr c27
       have c27b1 : (t245 != 1) = true := bne_iff_ne.mpr c27
       obtain rfl := Option.some.inj H
       try go_wp2
       have n0_ := Aside0.mk (blk_drew BK235.out)
       have n1_ := Aside0.mk (below_drew1 HB.out)
       clear BK235
       clear HB
       have BK235 := n0_
       have HB := n1_
       clear n0_ n1_
       refine start_ (n := 7) (S := fun w' => w'.cell? ⟨gb235, 0, none⟩ = some (.int .i64 a1_0) ∧ w'.cell? ⟨gb235, 1, none⟩ = some (.int .i64 a1_1)) (ds := []) (bsq 0 7) (by kernel_rfl) rfl rfl ⟨(blk_cell BK235.out 0).trans rfl, (blk_cell BK235.out 1).trans rfl⟩ (fun hHeld => ?_)
       generalize wc.drew = w35 at BK235 HB hHeld ⊢
       refine puk 0 32 (bsq 1 6) ?_
       refine puk 2 34 (bls [1, 1, 1, 4]) ?_
       refine tkk 3 35 (bls [1, 1, 2, 3]) hHeld ?_ (he := by rintro w' ⟨s0, s1⟩; go_simp; with_reducible rfl)
       refine one_ (i := 1) (N := some 33) (bsq 4 3) rfl rfl (by kernel_rfl) (by decide) (fun K hK => ?_)
       refine goes_ Try.func10 (by kernel_rfl) rfl #[.slice A0 l0.length c0] (by rfl) rfl rfl (by (try simp only [List.map_toArray, List.map_cons, List.map_nil]); first | done | rfl | (simp only [List.length_drop, List.length_take]; rfl)) ?_
       with_reducible refine (span_Join.calls _ _ l0 t238 _ ?side1 ?side2 A22.out).mono ?_
       (case side1 => repeat (first | exact (Kd.C_below HR0.out HB.out) | (with_reducible refine Kd.C_alloc ?_ _) | (with_reducible refine Kd.C_drewN ?_ _) | (with_reducible refine Kd.C_drew ?_)))
       (case side2 => exact HC0.out)
       rintro e w36 ⟨v239, rfl, ho0, hb⟩
       refine ⟨_, rfl, ?_⟩
       have n0_ := Aside0.mk (Kd.R_lower (Kd.R_newB ho0 (g := gb235) (o := .cells #[.int .i64 a1_0, .int .i64 a1_1] 25 (0, 0)) (bg BK235.out)) (below_size (bs HB.out)))
       have n1_ := Aside0.mk (blk_below (bg BK235.out) hb)
       have n2_ := Aside0.mk (below_step (bs HB.out) hb)
       clear BK235
       clear HB
       have HO240 := n0_
       have BK235 := n1_
       have HB := n2_
       clear n0_ n1_ n2_
       (try clear hb)
       (try clear hb2)
       (try clear hk)
       (try clear hi)
       (try clear ho0)
       refine hK.out _ _ ⟨(blk_cell BK235.out 0).trans rfl, (blk_cell BK235.out 1).trans rfl⟩ (fun hHeld => ?_)
       clear hK K
       refine norm_ (a' := ?_) ?_ ?_
       rotate_left
       ·
        show Act.put _ (some 33) _ = _
        simp only [Act.put, List.setIfInBounds_toArray, List.set_cons_zero, List.set_cons_succ, i64_w, i32_w]
        rfl
       refine one_ (i := 4) (N := some 36) (bsq 5 2) rfl rfl (by kernel_rfl) (by decide) (fun K hK => ?_)
       refine goes_ Try.func20 (by kernel_rfl) rfl #[.slice A0 l0.length c0, .agg #[.int .i64 a1_0, .int .i64 a1_1]] (by rfl) rfl rfl (by (try simp only [List.map_toArray, List.map_cons, List.map_nil]); first | done | rfl | (simp only [List.length_drop, List.length_take]; rfl)) ?_
       with_reducible refine (span_Gaps.calls kj5 _ _ l0 a1_0 a1_1 t241 _ ?side1 ?side2 A23.out).mono ?_
       (case side1 => repeat (first | exact (Kd.C_below HR0.out HB.out) | (with_reducible refine Kd.C_alloc ?_ _) | (with_reducible refine Kd.C_drewN ?_ _) | (with_reducible refine Kd.C_drew ?_)))
       (case side2 => exact HC0.out)
       rintro e w37 ⟨v242, rfl, ho0, hb⟩
       refine ⟨_, rfl, ?_⟩
       have n0_ := Aside0.mk (Kd.R_elder' (rq HO240.out) (Kd.R_base ho0) hb)
       have n1_ := Aside0.mk (Kd.R_lower (Kd.R_newB (Kd.R_new' ho0 (Kd.R_lt (rq HO240.out))) (g := gb235) (o := .cells #[.int .i64 a1_0, .int .i64 a1_1] 25 (0, 0)) (bg BK235.out)) (below_size (bs HB.out)))
       have n2_ := Aside0.mk (blk_below (bg BK235.out) hb)
       have n3_ := Aside0.mk (below_step (bs HB.out) hb)
       clear HO240
       clear BK235
       clear HB
       have HO240 := n0_
       have HO243 := n1_
       have BK235 := n2_
       have HB := n3_
       clear n0_ n1_ n2_ n3_
       (try clear hb)
       (try clear hb2)
       (try clear hk)
       (try clear hi)
       (try clear ho0)
       refine hK.out _ _ ⟨(blk_cell BK235.out 0).trans rfl, (blk_cell BK235.out 1).trans rfl⟩ (fun hHeld => ?_)
       clear hK K
       refine norm_ (a' := ?_) ?_ ?_
       rotate_left
       ·
        show Act.put _ (some 36) _ = _
        simp only [Act.put, List.setIfInBounds_toArray, List.set_cons_zero, List.set_cons_succ, i64_w, i32_w]
        rfl
       refine puk 5 7 (bsq 6 1) ?_
       refine puk 6 8 (bsq 7 0) ?_
       refine done_ (by kernel_rfl) ?_
       try go_wp2_with (first | ((with_reducible refine gate_callee (f := 13) rfl ?_); refine goesL_ (some 39) rfl rfl Try.func13 (by kernel_rfl) rfl #[.slice A0 l0.length c0, .int .i64 a2] rfl (by (try simp only [List.map_toArray, List.map_cons, List.map_nil]); first | done | rfl | (simp only [List.length_drop, List.length_take]; rfl)) ?_; (with_reducible refine (span_Find.calls kj5 _ _ l0 a2 t244 _ ?side1 ?side2 A24.out).mono ?_); (case side1 => repeat (first | exact (Kd.C_below HR0.out HB.out) | (with_reducible refine Kd.C_alloc ?_ _) | (with_reducible refine Kd.C_drewN ?_ _) | (with_reducible refine Kd.C_drew ?_))); (case side2 => exact HC0.out); rintro e w38 ⟨rfl, hb⟩; refine ⟨_, rfl, ?_⟩; have n0_ := Aside0.mk (Kd.R_below (rq HO240.out) hb); have n1_ := Aside0.mk (Kd.R_below (rq HO243.out) hb); have n2_ := Aside0.mk (blk_below (bg BK235.out) hb); have n3_ := Aside0.mk (below_step (bs HB.out) hb); clear HO240; clear HO243; clear BK235; clear HB; have HO240 := n0_; have HO243 := n1_; have BK235 := n2_; have HB := n3_; clear n0_ n1_ n2_ n3_; (try clear hb); (try clear hb2); (try clear hk); (try clear hi); obtain ⟨Ao39, co39, eo39⟩ := Kd.R_slice HO240.out; subst eo39) | ((with_reducible refine gate_callee (f := 21) rfl ?_); refine goesL_ (some 43) rfl rfl Try.func21 (by kernel_rfl) rfl #[.slice Ao39 t238.length co39, .int .i64 a2] rfl (by (try simp only [List.map_toArray, List.map_cons, List.map_nil]); first | done | rfl | (simp only [List.length_drop, List.length_take]; rfl)) ?_; (with_reducible refine (signalbenchlaw06_count.calls kj5 _ _ t238 a2 t245 _ ?side1 ?side2 A26.out).mono ?_); (case side1 => repeat (first | exact (Kd.R_reads' HO240.out).2.2 | (with_reducible refine Kd.C_alloc ?_ _) | (with_reducible refine Kd.C_drewN ?_ _) | (with_reducible refine Kd.C_drew ?_))); (case side2 => exact (Kd.R_reads' HO240.out).2.1); rintro e w' ⟨rfl, ⟨nd, rfl⟩⟩; refine ⟨_, rfl, ?_⟩))
       go_ret
       exact ⟨by first | rfl | (simp [errW_none, errW_some] <;> rfl) | (simp [*, errW_none, errW_some] <;> rfl), bs HB.out⟩
     ·
      rw [if_neg c25] at H
      have c25b0 : decide (0 ≤ t244) = false := decide_eq_false c25
      clear c25
      replace H := Option.bind_eq_some_iff.mp H
      obtain ⟨t247, A400, H⟩ := H
      replace H : (if t247 = 0 then ((signalbenchlaw06_count.f kj5 t241 a2).bind fun t248 => (some (t248 == (1 - 0)))) else (some false)) = some r := H
      have A40 := Aside0.mk A400
      clear A400
      by_cases c41 : t247 = 0
      ·
       rw [if_pos c41] at H
       have c41b0 : (t247 == 0) = true := beq_iff_eq.mpr c41
       have c41b1 : (t247 != 0) = false := bne_eq_false_iff_eq.mpr c41
       clear c41
       replace H := Option.bind_eq_some_iff.mp H
       obtain ⟨t248, A420, H⟩ := H
       replace H : (some (t248 == (1 - 0))) = some r := H
       have A42 := Aside0.mk A420
       clear A420
       obtain rfl := Option.some.inj H
       try go_wp2
       have n0_ := Aside0.mk (blk_drew BK235.out)
       have n1_ := Aside0.mk (below_drew1 HB.out)
       clear BK235
       clear HB
       have BK235 := n0_
       have HB := n1_
       clear n0_ n1_
       refine start_ (n := 7) (S := fun w' => w'.cell? ⟨gb235, 0, none⟩ = some (.int .i64 a1_0) ∧ w'.cell? ⟨gb235, 1, none⟩ = some (.int .i64 a1_1)) (ds := []) (bsq 0 7) (by kernel_rfl) rfl rfl ⟨(blk_cell BK235.out 0).trans rfl, (blk_cell BK235.out 1).trans rfl⟩ (fun hHeld => ?_)
       generalize wc.drew = w43 at BK235 HB hHeld ⊢
       refine puk 0 32 (bsq 1 6) ?_
       refine puk 2 34 (bls [1, 1, 1, 4]) ?_
       refine tkk 3 35 (bls [1, 1, 2, 3]) hHeld ?_ (he := by rintro w' ⟨s0, s1⟩; go_simp; with_reducible rfl)
       refine one_ (i := 1) (N := some 33) (bsq 4 3) rfl rfl (by kernel_rfl) (by decide) (fun K hK => ?_)
       refine goes_ Try.func10 (by kernel_rfl) rfl #[.slice A0 l0.length c0] (by rfl) rfl rfl (by (try simp only [List.map_toArray, List.map_cons, List.map_nil]); first | done | rfl | (simp only [List.length_drop, List.length_take]; rfl)) ?_
       with_reducible refine (span_Join.calls _ _ l0 t238 _ ?side1 ?side2 A22.out).mono ?_
       (case side1 => repeat (first | exact (Kd.C_below HR0.out HB.out) | (with_reducible refine Kd.C_alloc ?_ _) | (with_reducible refine Kd.C_drewN ?_ _) | (with_reducible refine Kd.C_drew ?_)))
       (case side2 => exact HC0.out)
       rintro e w44 ⟨v239, rfl, ho0, hb⟩
       refine ⟨_, rfl, ?_⟩
       have n0_ := Aside0.mk (Kd.R_lower (Kd.R_newB ho0 (g := gb235) (o := .cells #[.int .i64 a1_0, .int .i64 a1_1] 25 (0, 0)) (bg BK235.out)) (below_size (bs HB.out)))
       have n1_ := Aside0.mk (blk_below (bg BK235.out) hb)
       have n2_ := Aside0.mk (below_step (bs HB.out) hb)
       clear BK235
       clear HB
       have HO240 := n0_
       have BK235 := n1_
       have HB := n2_
       clear n0_ n1_ n2_
       (try clear hb)
       (try clear hb2)
       (try clear hk)
       (try clear hi)
       (try clear ho0)
       refine hK.out _ _ ⟨(blk_cell BK235.out 0).trans rfl, (blk_cell BK235.out 1).trans rfl⟩ (fun hHeld => ?_)
       clear hK K
       refine norm_ (a' := ?_) ?_ ?_
       rotate_left
       ·
        show Act.put _ (some 33) _ = _
        simp only [Act.put, List.setIfInBounds_toArray, List.set_cons_zero, List.set_cons_succ, i64_w, i32_w]
        rfl
       refine one_ (i := 4) (N := some 36) (bsq 5 2) rfl rfl (by kernel_rfl) (by decide) (fun K hK => ?_)
       refine goes_ Try.func20 (by kernel_rfl) rfl #[.slice A0 l0.length c0, .agg #[.int .i64 a1_0, .int .i64 a1_1]] (by rfl) rfl rfl (by (try simp only [List.map_toArray, List.map_cons, List.map_nil]); first | done | rfl | (simp only [List.length_drop, List.length_take]; rfl)) ?_
       with_reducible refine (span_Gaps.calls kj5 _ _ l0 a1_0 a1_1 t241 _ ?side1 ?side2 A23.out).mono ?_
       (case side1 => repeat (first | exact (Kd.C_below HR0.out HB.out) | (with_reducible refine Kd.C_alloc ?_ _) | (with_reducible refine Kd.C_drewN ?_ _) | (with_reducible refine Kd.C_drew ?_)))
       (case side2 => exact HC0.out)
       rintro e w45 ⟨v242, rfl, ho0, hb⟩
       refine ⟨_, rfl, ?_⟩
       have n0_ := Aside0.mk (Kd.R_elder' (rq HO240.out) (Kd.R_base ho0) hb)
       have n1_ := Aside0.mk (Kd.R_lower (Kd.R_newB (Kd.R_new' ho0 (Kd.R_lt (rq HO240.out))) (g := gb235) (o := .cells #[.int .i64 a1_0, .int .i64 a1_1] 25 (0, 0)) (bg BK235.out)) (below_size (bs HB.out)))
       have n2_ := Aside0.mk (blk_below (bg BK235.out) hb)
       have n3_ := Aside0.mk (below_step (bs HB.out) hb)
       clear HO240
       clear BK235
       clear HB
       have HO240 := n0_
       have HO243 := n1_
       have BK235 := n2_
       have HB := n3_
       clear n0_ n1_ n2_ n3_
       (try clear hb)
       (try clear hb2)
       (try clear hk)
       (try clear hi)
       (try clear ho0)
       refine hK.out _ _ ⟨(blk_cell BK235.out 0).trans rfl, (blk_cell BK235.out 1).trans rfl⟩ (fun hHeld => ?_)
       clear hK K
       refine norm_ (a' := ?_) ?_ ?_
       rotate_left
       ·
        show Act.put _ (some 36) _ = _
        simp only [Act.put, List.setIfInBounds_toArray, List.set_cons_zero, List.set_cons_succ, i64_w, i32_w]
        rfl
       refine puk 5 7 (bsq 6 1) ?_
       refine puk 6 8 (bsq 7 0) ?_
       refine done_ (by kernel_rfl) ?_
       try go_wp2_with (first | ((with_reducible refine gate_callee (f := 13) rfl ?_); refine goesL_ (some 39) rfl rfl Try.func13 (by kernel_rfl) rfl #[.slice A0 l0.length c0, .int .i64 a2] rfl (by (try simp only [List.map_toArray, List.map_cons, List.map_nil]); first | done | rfl | (simp only [List.length_drop, List.length_take]; rfl)) ?_; (with_reducible refine (span_Find.calls kj5 _ _ l0 a2 t244 _ ?side1 ?side2 A24.out).mono ?_); (case side1 => repeat (first | exact (Kd.C_below HR0.out HB.out) | (with_reducible refine Kd.C_alloc ?_ _) | (with_reducible refine Kd.C_drewN ?_ _) | (with_reducible refine Kd.C_drew ?_))); (case side2 => exact HC0.out); rintro e w46 ⟨rfl, hb⟩; refine ⟨_, rfl, ?_⟩; have n0_ := Aside0.mk (Kd.R_below (rq HO240.out) hb); have n1_ := Aside0.mk (Kd.R_below (rq HO243.out) hb); have n2_ := Aside0.mk (blk_below (bg BK235.out) hb); have n3_ := Aside0.mk (below_step (bs HB.out) hb); clear HO240; clear HO243; clear BK235; clear HB; have HO240 := n0_; have HO243 := n1_; have BK235 := n2_; have HB := n3_; clear n0_ n1_ n2_ n3_; (try clear hb); (try clear hb2); (try clear hk); (try clear hi); obtain ⟨Ao47, co47, eo47⟩ := Kd.R_slice HO240.out; subst eo47) | ((with_reducible refine gate_callee (f := 21) rfl ?_); refine goesL_ (some 43) rfl rfl Try.func21 (by kernel_rfl) rfl #[.slice Ao47 t238.length co47, .int .i64 a2] rfl (by (try simp only [List.map_toArray, List.map_cons, List.map_nil]); first | done | rfl | (simp only [List.length_drop, List.length_take]; rfl)) ?_; (with_reducible refine (signalbenchlaw06_count.calls kj5 _ _ t238 a2 t247 _ ?side1 ?side2 A40.out).mono ?_); (case side1 => repeat (first | exact (Kd.R_reads' HO240.out).2.2 | (with_reducible refine Kd.C_alloc ?_ _) | (with_reducible refine Kd.C_drewN ?_ _) | (with_reducible refine Kd.C_drew ?_))); (case side2 => exact (Kd.R_reads' HO240.out).2.1); rintro e w' ⟨rfl, ⟨nd, rfl⟩⟩; refine ⟨_, rfl, ?_⟩; obtain ⟨Ao48, co48, eo48⟩ := Kd.R_slice HO243.out; subst eo48) | (go_at_call 21; (with_reducible refine (signalbenchlaw06_count.calls kj5 _ _ t241 a2 t248 _ ?side1 ?side2 A42.out).mono ?_); (case side1 => repeat (first | exact (Kd.R_reads' HO243.out).2.2 | (with_reducible refine Kd.C_alloc ?_ _) | (with_reducible refine Kd.C_drewN ?_ _) | (with_reducible refine Kd.C_drew ?_))); (case side2 => exact (Kd.R_reads' HO243.out).2.1); rintro e w' ⟨rfl, ⟨nd, rfl⟩⟩))
       go_ret
       exact ⟨by first | rfl | (simp [errW_none, errW_some] <;> rfl) | (simp [*, errW_none, errW_some] <;> rfl), bs HB.out⟩
      ·
       rw [if_neg c41] at H
       have c41b0 : (t247 == 0) = false := beq_eq_false_iff_ne.mpr c41
       have c41b1 : (t247 != 0) = true := bne_iff_ne.mpr c41
       obtain rfl := Option.some.inj H
       try go_wp2
       have n0_ := Aside0.mk (blk_drew BK235.out)
       have n1_ := Aside0.mk (below_drew1 HB.out)
       clear BK235
       clear HB
       have BK235 := n0_
       have HB := n1_
       clear n0_ n1_
       refine start_ (n := 7) (S := fun w' => w'.cell? ⟨gb235, 0, none⟩ = some (.int .i64 a1_0) ∧ w'.cell? ⟨gb235, 1, none⟩ = some (.int .i64 a1_1)) (ds := []) (bsq 0 7) (by kernel_rfl) rfl rfl ⟨(blk_cell BK235.out 0).trans rfl, (blk_cell BK235.out 1).trans rfl⟩ (fun hHeld => ?_)
       generalize wc.drew = w49 at BK235 HB hHeld ⊢
       refine puk 0 32 (bsq 1 6) ?_
       refine puk 2 34 (bls [1, 1, 1, 4]) ?_
       refine tkk 3 35 (bls [1, 1, 2, 3]) hHeld ?_ (he := by rintro w' ⟨s0, s1⟩; go_simp; with_reducible rfl)
       refine one_ (i := 1) (N := some 33) (bsq 4 3) rfl rfl (by kernel_rfl) (by decide) (fun K hK => ?_)
       refine goes_ Try.func10 (by kernel_rfl) rfl #[.slice A0 l0.length c0] (by rfl) rfl rfl (by (try simp only [List.map_toArray, List.map_cons, List.map_nil]); first | done | rfl | (simp only [List.length_drop, List.length_take]; rfl)) ?_
       with_reducible refine (span_Join.calls _ _ l0 t238 _ ?side1 ?side2 A22.out).mono ?_
       (case side1 => repeat (first | exact (Kd.C_below HR0.out HB.out) | (with_reducible refine Kd.C_alloc ?_ _) | (with_reducible refine Kd.C_drewN ?_ _) | (with_reducible refine Kd.C_drew ?_)))
       (case side2 => exact HC0.out)
       rintro e w50 ⟨v239, rfl, ho0, hb⟩
       refine ⟨_, rfl, ?_⟩
       have n0_ := Aside0.mk (Kd.R_lower (Kd.R_newB ho0 (g := gb235) (o := .cells #[.int .i64 a1_0, .int .i64 a1_1] 25 (0, 0)) (bg BK235.out)) (below_size (bs HB.out)))
       have n1_ := Aside0.mk (blk_below (bg BK235.out) hb)
       have n2_ := Aside0.mk (below_step (bs HB.out) hb)
       clear BK235
       clear HB
       have HO240 := n0_
       have BK235 := n1_
       have HB := n2_
       clear n0_ n1_ n2_
       (try clear hb)
       (try clear hb2)
       (try clear hk)
       (try clear hi)
       (try clear ho0)
       refine hK.out _ _ ⟨(blk_cell BK235.out 0).trans rfl, (blk_cell BK235.out 1).trans rfl⟩ (fun hHeld => ?_)
       clear hK K
       refine norm_ (a' := ?_) ?_ ?_
       rotate_left
       ·
        show Act.put _ (some 33) _ = _
        simp only [Act.put, List.setIfInBounds_toArray, List.set_cons_zero, List.set_cons_succ, i64_w, i32_w]
        rfl
       refine one_ (i := 4) (N := some 36) (bsq 5 2) rfl rfl (by kernel_rfl) (by decide) (fun K hK => ?_)
       refine goes_ Try.func20 (by kernel_rfl) rfl #[.slice A0 l0.length c0, .agg #[.int .i64 a1_0, .int .i64 a1_1]] (by rfl) rfl rfl (by (try simp only [List.map_toArray, List.map_cons, List.map_nil]); first | done | rfl | (simp only [List.length_drop, List.length_take]; rfl)) ?_
       with_reducible refine (span_Gaps.calls kj5 _ _ l0 a1_0 a1_1 t241 _ ?side1 ?side2 A23.out).mono ?_
       (case side1 => repeat (first | exact (Kd.C_below HR0.out HB.out) | (with_reducible refine Kd.C_alloc ?_ _) | (with_reducible refine Kd.C_drewN ?_ _) | (with_reducible refine Kd.C_drew ?_)))
       (case side2 => exact HC0.out)
       rintro e w51 ⟨v242, rfl, ho0, hb⟩
       refine ⟨_, rfl, ?_⟩
       have n0_ := Aside0.mk (Kd.R_elder' (rq HO240.out) (Kd.R_base ho0) hb)
       have n1_ := Aside0.mk (Kd.R_lower (Kd.R_newB (Kd.R_new' ho0 (Kd.R_lt (rq HO240.out))) (g := gb235) (o := .cells #[.int .i64 a1_0, .int .i64 a1_1] 25 (0, 0)) (bg BK235.out)) (below_size (bs HB.out)))
       have n2_ := Aside0.mk (blk_below (bg BK235.out) hb)
       have n3_ := Aside0.mk (below_step (bs HB.out) hb)
       clear HO240
       clear BK235
       clear HB
       have HO240 := n0_
       have HO243 := n1_
       have BK235 := n2_
       have HB := n3_
       clear n0_ n1_ n2_ n3_
       (try clear hb)
       (try clear hb2)
       (try clear hk)
       (try clear hi)
       (try clear ho0)
       refine hK.out _ _ ⟨(blk_cell BK235.out 0).trans rfl, (blk_cell BK235.out 1).trans rfl⟩ (fun hHeld => ?_)
       clear hK K
       refine norm_ (a' := ?_) ?_ ?_
       rotate_left
       ·
        show Act.put _ (some 36) _ = _
        simp only [Act.put, List.setIfInBounds_toArray, List.set_cons_zero, List.set_cons_succ, i64_w, i32_w]
        rfl
       refine puk 5 7 (bsq 6 1) ?_
       refine puk 6 8 (bsq 7 0) ?_
       refine done_ (by kernel_rfl) ?_
       try go_wp2_with (first | ((with_reducible refine gate_callee (f := 13) rfl ?_); refine goesL_ (some 39) rfl rfl Try.func13 (by kernel_rfl) rfl #[.slice A0 l0.length c0, .int .i64 a2] rfl (by (try simp only [List.map_toArray, List.map_cons, List.map_nil]); first | done | rfl | (simp only [List.length_drop, List.length_take]; rfl)) ?_; (with_reducible refine (span_Find.calls kj5 _ _ l0 a2 t244 _ ?side1 ?side2 A24.out).mono ?_); (case side1 => repeat (first | exact (Kd.C_below HR0.out HB.out) | (with_reducible refine Kd.C_alloc ?_ _) | (with_reducible refine Kd.C_drewN ?_ _) | (with_reducible refine Kd.C_drew ?_))); (case side2 => exact HC0.out); rintro e w52 ⟨rfl, hb⟩; refine ⟨_, rfl, ?_⟩; have n0_ := Aside0.mk (Kd.R_below (rq HO240.out) hb); have n1_ := Aside0.mk (Kd.R_below (rq HO243.out) hb); have n2_ := Aside0.mk (blk_below (bg BK235.out) hb); have n3_ := Aside0.mk (below_step (bs HB.out) hb); clear HO240; clear HO243; clear BK235; clear HB; have HO240 := n0_; have HO243 := n1_; have BK235 := n2_; have HB := n3_; clear n0_ n1_ n2_ n3_; (try clear hb); (try clear hb2); (try clear hk); (try clear hi); obtain ⟨Ao53, co53, eo53⟩ := Kd.R_slice HO240.out; subst eo53) | ((with_reducible refine gate_callee (f := 21) rfl ?_); refine goesL_ (some 43) rfl rfl Try.func21 (by kernel_rfl) rfl #[.slice Ao53 t238.length co53, .int .i64 a2] rfl (by (try simp only [List.map_toArray, List.map_cons, List.map_nil]); first | done | rfl | (simp only [List.length_drop, List.length_take]; rfl)) ?_; (with_reducible refine (signalbenchlaw06_count.calls kj5 _ _ t238 a2 t247 _ ?side1 ?side2 A40.out).mono ?_); (case side1 => repeat (first | exact (Kd.R_reads' HO240.out).2.2 | (with_reducible refine Kd.C_alloc ?_ _) | (with_reducible refine Kd.C_drewN ?_ _) | (with_reducible refine Kd.C_drew ?_))); (case side2 => exact (Kd.R_reads' HO240.out).2.1); rintro e w' ⟨rfl, ⟨nd, rfl⟩⟩; refine ⟨_, rfl, ?_⟩))
       go_ret
       exact ⟨by first | rfl | (simp [errW_none, errW_some] <;> rfl) | (simp [*, errW_none, errW_some] <;> rfl), bs HB.out⟩
 ·
  replace c5 := Bool.eq_false_iff.mpr c5
  subst c5
  have H1 : (some false) = some r := by rw [if_neg (show ¬ (false = true) by decide)] at H; exact H
  clear H
  have H := H1
  clear H1
  obtain rfl := Option.some.inj H
  go_enter Try.func7, Try.ntmps7
  go_wp2_with (first | ((with_reducible refine gate_dst (N := 4) rfl ?_); refine box_event ?hg (N := 4) ?hd (cs := #[.int .i64 a1_0, .int .i64 a1_1]) (t := 25) ?hr ?_; (case hd => rfl); (case hg => rfl); (case hr => first | (go_simp; done) | (go_simp; rfl)); intro gb235 hg w54 hbox hb; have n0_ := Aside0.mk (below_step (bs HB.out) hb); have n1_ := Aside0.mk (hbox); have n2_ := Aside0.mk ((by rw [hg]; exact (below_size (bs HB.out)) : w.heap.size ≤ gb235)); have n3_ := n2_; clear HB; have HB := n0_; have BK235 := n1_; have GW235 := n2_; have GE235 := n3_; clear n0_ n1_ n2_ n3_; clear hb hbox hg) | ((with_reducible refine gate_callee (f := 9) rfl ?_); refine goesL_ (some 10) rfl rfl Try.func9 (by kernel_rfl) rfl #[] rfl (by (try simp only [List.map_toArray, List.map_cons, List.map_nil]); first | done | rfl | (simp only [List.length_drop, List.length_take]; rfl)) ?_; (with_reducible refine (signalbenchlaw06_lives.calls  false _ A4.out).mono ?_); rintro e w55 ⟨rfl, hb⟩; refine ⟨_, rfl, ?_⟩; have n0_ := Aside0.mk (blk_below (bg BK235.out) hb); have n1_ := Aside0.mk (below_step (bs HB.out) hb); clear BK235; clear HB; have BK235 := n0_; have HB := n1_; clear n0_ n1_; (try clear hb); (try clear hb2); (try clear hk); (try clear hi)))
  go_ret
  exact ⟨by first | rfl | (simp [errW_none, errW_some] <;> rfl) | (simp [*, errW_none, errW_some] <;> rfl), bs HB.out⟩

end Go.Proofs.Ytejmegaalfblmaa.H
