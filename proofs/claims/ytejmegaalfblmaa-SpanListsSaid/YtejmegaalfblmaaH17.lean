-- Printed by wip/hprint.py (this project's own driver of the kit's print) out of the translation; Lean checks it.
import Derived.Test.YtejmegaalfblmaaH0
import Derived.Test.YtejmegaalfblmaaH3
import Derived.Test.YtejmegaalfblmaaHCommon
import Derived.Test.YtejmegaalfblmaaHJoin
namespace Go.Proofs.Ytejmegaalfblmaa.H
open Go.RowKit Go.Proofs.YtejmegaalfblmaaW.PrintWords Go.Proofs.YtejmegaalfblmaaW.PrintLast Go.Proofs.YtejmegaalfblmaaW.PrintMore
attribute [local go_sem] max2_int min2_int max_two min_two max_three min_three max_four min_four   -- for this text's walks alone
set_option linter.unusedVariables false
set_option linter.unusedSimpArgs false

/-! ### span_Gaps: function 20 -/
def span_Gaps.l0 : Nat → List (S25) → Int → List (S25) → Int → Int → Int → Int → Option ((List (S25)))
 | 0, _, _, _, _, _, _, _ => none
 | k + 1, x5, x6, x17, x18, x19, x197000, x197001 => if x19 < x18 then (if 0 ≤ x19 then (if x19 < (x17.length : Int) then ((span_Common.f ((rd_T25 x17 x19).f0) ((rd_T25 x17 x19).f1) x197000 x197001).bind fun bt206 => (if bt206.2.2 = true then (if x6 < bt206.1 then (if x5.length < 8796093022208 then (span_Gaps.l0 k (x5 ++ [(⟨x6, bt206.1⟩ : S25)]) bt206.2.1 x17 x18 (wrap64 (x19 + 1)) x197000 x197001) else (none)) else (span_Gaps.l0 k x5 bt206.2.1 x17 x18 (wrap64 (x19 + 1)) x197000 x197001)) else (span_Gaps.l0 k x5 x6 x17 x18 (wrap64 (x19 + 1)) x197000 x197001))) else (none)) else (none)) else (if x6 < x197001 then (if x5.length < 8796093022208 then (some (x5 ++ [(⟨x6, x197001⟩ : S25)])) else (none)) else (some x5))
def span_Gaps.f (k : Nat) (l0 : List (S25)) (a1_0 : Int) (a1_1 : Int) : Option ((List (S25))) := (span_Valid.f a1_0 a1_1).bind fun t197 => (if t197 = true then ((span_Join.f l0).bind fun t198 => (span_Gaps.l0 k ([] : List (S25)) a1_0 t198 (t198.length : Int) 0 a1_0 a1_1)) else (some ([] : List (S25))))
theorem span_Gaps.mono_l : ∀ k, (∀ y0 y1 y2 y3 y4 y5 y6, LeO (span_Gaps.l0 k y0 y1 y2 y3 y4 y5 y6) (span_Gaps.l0 (k + 1) y0 y1 y2 y3 y4 y5 y6))
 | 0 => fun _ _ _ _ _ _ _ r h => by simp [span_Gaps.l0] at h
 | k + 1 => by
  have ih0 := span_Gaps.mono_l k
  ·
   intro y0 y1 y2 y3 y4 y5 y6
   unfold span_Gaps.l0
   repeat' first
   | (with_reducible exact ih0 _ _ _ _ _ _ _)
   | (with_reducible exact LeO.refl _)
   | (with_reducible exact LeO.none _)
   | (with_reducible refine LeO.ite ?_ ?_)
   | (with_reducible refine LeO.bind ?_ (fun _ => ?_))
   | exact ih0 _ _ _ _ _ _ _
   | exact LeO.none _
   | refine LeO.ite ?_ ?_
   | refine LeO.bind ?_ (fun _ => ?_)
theorem span_Gaps.mono : ∀ a0 a1 a2 k, LeO (span_Gaps.f k a0 a1 a2) (span_Gaps.f (k + 1) a0 a1 a2) := by
 intro a0 a1 a2 k
 have ih0 := span_Gaps.mono_l k
 unfold span_Gaps.f
 repeat' first
   | (with_reducible exact ih0 _ _ _ _ _ _ _)
   | (with_reducible exact LeO.refl _)
   | (with_reducible exact LeO.none _)
   | (with_reducible refine LeO.ite ?_ ?_)
   | (with_reducible refine LeO.bind ?_ (fun _ => ?_))
   | exact ih0 _ _ _ _ _ _ _
   | exact LeO.none _
   | refine LeO.ite ?_ ?_
   | refine LeO.bind ?_ (fun _ => ?_)
set_option maxHeartbeats 8000000 in
set_option maxRecDepth 100000 in
theorem span_Gaps.calls (k : Nat) (A0 : Option Addr) (c0 : Nat) (l0 : List (S25)) (a1_0 : Int) (a1_1 : Int) (r : List (S25)) (w : World) (hr0 : Kd.C k25 w A0 l0.length l0) (hc0 : l0.length ≤ c0) (h : span_Gaps.f k l0 a1_0 a1_1 = some r) :
  Calls Try.prog 20 #[.slice A0 l0.length c0, .agg #[.int .i64 a1_0, .int .i64 a1_1]] w fun e w' => ∃ v0_ : Value, e = .returned (v0_) ∧ Kd.R k25 25 w' w.heap.size (fun _ => True) v0_ r ∧ Below w.heap.size w w' := by
 have hu25 := Try.underlying25
 have HR0 := Aside0.mk hr0
 have HC0 := Aside0.mk hc0
 clear hr0 hc0
 have HB := Aside0.mk (Below.refl w.heap.size w)
 have H : ((span_Valid.f a1_0 a1_1).bind fun t197 => (if t197 = true then ((span_Join.f l0).bind fun t198 => (span_Gaps.l0 k ([] : List (S25)) a1_0 t198 (t198.length : Int) 0 a1_0 a1_1)) else (some ([] : List (S25))))) = some r := h
 clear h
 replace H := Option.bind_eq_some_iff.mp H
 obtain ⟨t197, A30, H⟩ := H
 replace H : (if t197 = true then ((span_Join.f l0).bind fun t198 => (span_Gaps.l0 k ([] : List (S25)) a1_0 t198 (t198.length : Int) 0 a1_0 a1_1)) else (some ([] : List (S25)))) = some r := H
 have A3 := Aside0.mk A30
 clear A30
 by_cases c4 : t197 = true
 ·
  subst c4
  have H1 : ((span_Join.f l0).bind fun t198 => (span_Gaps.l0 k ([] : List (S25)) a1_0 t198 (t198.length : Int) 0 a1_0 a1_1)) = some r := by rw [if_pos rfl] at H; exact H
  clear H
  have H := H1
  clear H1
  replace H := Option.bind_eq_some_iff.mp H
  obtain ⟨t198, A50, H⟩ := H
  replace H : (span_Gaps.l0 k ([] : List (S25)) a1_0 t198 (t198.length : Int) 0 a1_0 a1_1) = some r := H
  have A5 := Aside0.mk A50
  clear A50
  have H' := Aside0.mk H
  clear H
  go_enter Try.func20, Try.ntmps20
  go_wp2_with (first | ((with_reducible refine gate_dst (N := 3) rfl ?_); refine box_event ?hg (N := 3) ?hd (cs := #[.int .i64 a1_0, .int .i64 a1_1]) (t := 25) ?hr ?_; (case hd => rfl); (case hg => rfl); (case hr => first | (go_simp; done) | (go_simp; rfl)); intro gb196 hg w6 hbox hb; have n0_ := Aside0.mk (below_step (bs HB.out) hb); have n1_ := Aside0.mk (hbox); have n2_ := Aside0.mk ((by rw [hg]; exact (below_size (bs HB.out)) : w.heap.size ≤ gb196)); have n3_ := n2_; clear HB; have HB := n0_; have BK196 := n1_; have GW196 := n2_; have GE196 := n3_; clear n0_ n1_ n2_ n3_; clear hb hbox hg; obtain ⟨hcz7_0, hcz7_1⟩ := bc2 BK196.out; obtain ⟨hfz7_0, hfz7_1⟩ := bf2 BK196.out) | ((with_reducible refine gate_callee (f := 14) rfl ?_); refine goesL_ (some 12) rfl rfl Try.func14 (by kernel_rfl) rfl #[.agg #[.int .i64 a1_0, .int .i64 a1_1]] rfl (by (try simp only [List.map_toArray, List.map_cons, List.map_nil]); first | done | rfl | (simp only [List.length_drop, List.length_take]; rfl)) ?_; (with_reducible refine (span_Valid.calls a1_0 a1_1 true _ A3.out).mono ?_); rintro e w8 ⟨rfl, hb⟩; refine ⟨_, rfl, ?_⟩; have n0_ := Aside0.mk (blk_below (bg BK196.out) hb); have n1_ := Aside0.mk (below_step (bs HB.out) hb); clear BK196; clear HB; have BK196 := n0_; have HB := n1_; clear n0_ n1_; (try clear hb); (try clear hb2); (try clear hk); (try clear hi); obtain ⟨hcz9_0, hcz9_1⟩ := bc2 BK196.out; obtain ⟨hfz9_0, hfz9_1⟩ := bf2 BK196.out) | ((with_reducible refine gate_callee (f := 10) rfl ?_); refine goesL_ (some 17) rfl rfl Try.func10 (by kernel_rfl) rfl #[.slice A0 l0.length c0] rfl (by (try simp only [List.map_toArray, List.map_cons, List.map_nil]); first | done | rfl | (simp only [List.length_drop, List.length_take]; rfl)) ?_; (with_reducible refine (span_Join.calls _ _ l0 t198 _ ?side1 ?side2 A5.out).mono ?_); (case side1 => repeat (first | exact (Kd.C_below HR0.out HB.out) | (with_reducible refine Kd.C_alloc ?_ _) | (with_reducible refine Kd.C_drewN ?_ _) | (with_reducible refine Kd.C_drew ?_))); (case side2 => exact HC0.out); rintro e w10 ⟨v199, rfl, ho0, hb⟩; refine ⟨_, rfl, ?_⟩; have n0_ := Aside0.mk (Kd.R_lower (Kd.R_newB ho0 (g := gb196) (o := .cells #[.int .i64 a1_0, .int .i64 a1_1] 25 (0, 0)) (bg BK196.out)) (below_size (bs HB.out))); have n1_ := Aside0.mk (blk_below (bg BK196.out) hb); have n2_ := Aside0.mk (below_step (bs HB.out) hb); clear BK196; clear HB; have HO200 := n0_; have BK196 := n1_; have HB := n2_; clear n0_ n1_ n2_; (try clear hb); (try clear hb2); (try clear hk); (try clear hi); (try clear ho0); obtain ⟨Ao11, co11, eo11⟩ := Kd.R_slice HO200.out; subst eo11))
  go_loopg [5, 6, 19] k (fun kq v5 v6 v19 w' => ∃ (x5_1 : List (S25)) (x6_1 : Int) (x19_1 : Int), v6 = .int .i64 x6_1 ∧ v19 = .int .i64 x19_1 ∧ Aside0 (span_Gaps.l0 kq x5_1 x6_1 t198 (t198.length : Int) x19_1 a1_0 a1_1 = some r) ∧ Aside0 (kq ≤ k) ∧ Aside0 (Kd.R k25 25 w' w.heap.size (fun k_ => some k_ ≠ ((.slice Ao11 t198.length co11) : Value).ownBlock ∧ k_ ≠ gb196) v5 x5_1) ∧ Aside0 (Kd.R k25 25 w' w.heap.size (fun k_ => some k_ ≠ (v5 : Value).ownBlock ∧ k_ ≠ gb196) (.slice Ao11 t198.length co11) t198) ∧ Aside0 (w'.heap[gb196]? = some (.cells #[.int .i64 a1_0, .int .i64 a1_1] 25 (0, 0))) ∧ Aside0 (Below w.heap.size w w'))
  case atStart => exact ⟨(([] : List (S25))), (a1_0), (0), (by first | rfl | (simp; done) | (simp [*]; done)), (by first | rfl | (simp; done) | (simp [*]; done)), H', ⟨Nat.le_refl _⟩, ⟨by first | exact Kd.R_nil _ _ _ _ _ | exact Kd.N_nil _ _ _ _ _ | exact Kd.V_nil _ _ _ _ _ | exact Kd.Q_nil _ _ _ _ _ | exact Kd.S_nil _ _ _ _ _⟩, ⟨by (with_reducible repeat (first | apply Kd.R_alloc | apply Kd.R_drewN | apply Kd.R_drew)); exact Kd.R_mono HO200.out (fun _ hk => ⟨(by simp [Value.ownBlock]), hk.2⟩)⟩, ⟨bg BK196.out⟩, ⟨bs HB.out⟩⟩
  case round =>
   clear H'
   try clear c1
   try clear c2
   try clear p2
   try clear c4
   try clear c10
   try clear hcz7_0 hcz7_1
   try clear hcz9_0 hcz9_1
   try clear hfz7_0 hfz7_1
   try clear hfz9_0 hfz9_1
   obtain ⟨x5_1, x6_1, x19_1, rfl, rfl, HA, HK1, HO_5, HO_17, BK196, HB⟩ := hrel
   cases gk with
   | zero => exact absurd HA.out (by simp [span_Gaps.l0])
   | succ k1 =>
    have H := HA.out
    clear HA
    simp only [span_Gaps.l0] at H
    by_cases c12 : x19_1 < (t198.length : Int)
    ·
     rw [if_pos c12] at H
     have c12b0 : decide (x19_1 < (t198.length : Int)) = true := decide_eq_true c12
     clear c12
     by_cases c13 : 0 ≤ x19_1
     ·
      rw [if_pos c13] at H
      have c13b0 : decide (0 ≤ x19_1) = true := decide_eq_true c13
      clear c13
      by_cases c14 : x19_1 < (t198.length : Int)
      ·
       rw [if_pos c14] at H
       have c14b0 : decide (x19_1 < (t198.length : Int)) = true := decide_eq_true c14
       clear c14
       replace H := Option.bind_eq_some_iff.mp H
       obtain ⟨⟨t206, t207, t208⟩, A150, H⟩ := H
       replace H : (if t208 = true then (if x6_1 < t206 then (if x5_1.length < 8796093022208 then (span_Gaps.l0 k1 (x5_1 ++ [(⟨x6_1, t206⟩ : S25)]) t207 t198 (t198.length : Int) (wrap64 (x19_1 + 1)) a1_0 a1_1) else (none)) else (span_Gaps.l0 k1 x5_1 t207 t198 (t198.length : Int) (wrap64 (x19_1 + 1)) a1_0 a1_1)) else (span_Gaps.l0 k1 x5_1 x6_1 t198 (t198.length : Int) (wrap64 (x19_1 + 1)) a1_0 a1_1)) = some r := H
       have A15 := Aside0.mk A150
       clear A150
       by_cases c16 : t208 = true
       ·
        subst c16
        have H1 : (if x6_1 < t206 then (if x5_1.length < 8796093022208 then (span_Gaps.l0 k1 (x5_1 ++ [(⟨x6_1, t206⟩ : S25)]) t207 t198 (t198.length : Int) (wrap64 (x19_1 + 1)) a1_0 a1_1) else (none)) else (span_Gaps.l0 k1 x5_1 t207 t198 (t198.length : Int) (wrap64 (x19_1 + 1)) a1_0 a1_1)) = some r := by rw [if_pos rfl] at H; exact H
        clear H
        have H := H1
        clear H1
        by_cases c17 : x6_1 < t206
        ·
         rw [if_pos c17] at H
         have c17b0 : decide (x6_1 < t206) = true := decide_eq_true c17
         clear c17
         by_cases c18 : x5_1.length < 8796093022208
         ·
          rw [if_pos c18] at H
          have LMc18 := Aside0.mk c18
          clear c18
          obtain ⟨y210, hy210⟩ : ∃ y_ : List (S25), y_ = (x5_1 ++ [(⟨x6_1, t206⟩ : S25)]) := ⟨_, rfl⟩
          replace H : (span_Gaps.l0 k1 y210 t207 t198 (t198.length : Int) (wrap64 (x19_1 + 1)) a1_0 a1_1) = some r := by first | (rw [hy210]; with_reducible exact H) | (have H2_ := (Option.bind_some _ _).symm.trans H; rw [hy210]; with_reducible exact H2_) | (have H2_ := (Option.bind_some _ _).symm.trans H; with_reducible exact H2_) | with_reducible exact H | (rw [hy210]; exact H) | exact H
          have Ny210 := Aside0.mk hy210
          clear hy210
          have H' := Aside0.mk H
          clear H
          have p204 : 0 ≤ (x19_1 : Int) := of_decide_eq_true (by first | (with_reducible assumption) | assumption)
          have q204 : x19_1 < (t198.length : Int) := of_decide_eq_true (by first | (with_reducible assumption) | assumption)
          obtain ⟨ad204, e204, hx204_0, hx204_1⟩ := at_T25 (Kd.R_reads' HO_17.out).2.2 x19_1 p204 q204
          cases e204
          replace p204 := eq_true p204
          replace q204 := eq_true q204
          go_wp2_with (first | ((with_reducible refine gate_dst (N := 8) rfl ?_); refine box_event ?hg (N := 8) ?hd (cs := #[.int .i64 0, .int .i64 0]) (t := 25) ?hr ?_; (case hd => rfl); (case hg => rfl); (case hr => first | (go_simp; done) | (go_simp; rfl)); intro gb205 hg w19 hbox hb; have n0_ := Aside0.mk (Kd.R_below (Kd.R_elderB (rq HO_5.out) gb205 (Nat.le_of_eq hg.symm)) hb); have n1_ := Aside0.mk (Kd.R_below (Kd.R_elderB (rq HO_17.out) gb205 (Nat.le_of_eq hg.symm)) hb); have n2_ := Aside0.mk (blk_below (bg BK196.out) hb); have n3_ := Aside0.mk (below_step (bs HB.out) hb); have n4_ := Aside0.mk (hbox); have n5_ := Aside0.mk ((by rw [hg]; exact (below_size (bs HB.out)) : w.heap.size ≤ gb205)); have n6_ := n5_; have n7_ := Aside0.mk ((by rw [hg]; exact Nat.ne_of_lt (blk_lt (bg BK196.out)) : gb196 ≠ gb205)); have n8_ := Aside0.mk ((by rw [hg]; exact Nat.ne_of_gt (blk_lt (bg BK196.out)) : gb205 ≠ gb196)); clear HO_5; clear HO_17; clear BK196; clear HB; have HO_5 := n0_; have HO_17 := n1_; have BK196 := n2_; have HB := n3_; have BK205 := n4_; have GW205 := n5_; have GE205 := n6_; have NB196_205 := n7_; have NB205_196 := n8_; clear n0_ n1_ n2_ n3_ n4_ n5_ n6_ n7_ n8_; clear hb hbox hg; have hnb20 := NB205_196.out; have hnc20 := NB196_205.out; obtain ⟨hcz21_0, hcz21_1⟩ := bc2 BK205.out; obtain ⟨hfz21_0, hfz21_1⟩ := bf2 BK205.out; obtain ⟨hcz22_0, hcz22_1⟩ := bc2 BK196.out; obtain ⟨hfz22_0, hfz22_1⟩ := bf2 BK196.out) | ((with_reducible refine gate_callee (f := 15) rfl ?_); refine goesL_ (some 26) rfl rfl Try.func15 (by kernel_rfl) rfl #[.agg #[.int .i64 ((rd_T25 t198 x19_1).f0), .int .i64 ((rd_T25 t198 x19_1).f1)], .agg #[.int .i64 a1_0, .int .i64 a1_1]] rfl (by (try simp only [List.map_toArray, List.map_cons, List.map_nil]); first | done | rfl | (simp only [List.length_drop, List.length_take]; rfl)) ?_; (with_reducible refine (span_Common.calls ((rd_T25 t198 x19_1).f0) ((rd_T25 t198 x19_1).f1) a1_0 a1_1 t206 t207 true _ A15.out).mono ?_); rintro e w23 ⟨rfl, hb⟩; refine ⟨_, rfl, ?_⟩; have n0_ := Aside0.mk (Kd.R_below (by (with_reducible repeat (first | apply Kd.R_alloc | apply Kd.R_drewN | apply Kd.R_drew)); exact (Kd.R_mono (Kd.R_far (p := ⟨gb205, 1, none⟩) (Kd.R_far (p := ⟨gb205, 0, none⟩) (Kd.R_mono HO_5.out (fun k_ hk => (⟨hk, hk.2⟩ : _ ∧ k_ ≠ gb205))) (fun _ hk => hk.2) (.int .i64 ((rd_T25 t198 x19_1).f0))) (fun _ hk => hk.2) (.int .i64 ((rd_T25 t198 x19_1).f1))) (fun _ h_ => h_.1))) hb); have n1_ := Aside0.mk (Kd.R_below (by (with_reducible repeat (first | apply Kd.R_alloc | apply Kd.R_drewN | apply Kd.R_drew)); exact (Kd.R_mono (Kd.R_far (p := ⟨gb205, 1, none⟩) (Kd.R_far (p := ⟨gb205, 0, none⟩) (Kd.R_mono HO_17.out (fun k_ hk => (⟨hk, hk.2⟩ : _ ∧ k_ ≠ gb205))) (fun _ hk => hk.2) (.int .i64 ((rd_T25 t198 x19_1).f0))) (fun _ hk => hk.2) (.int .i64 ((rd_T25 t198 x19_1).f1))) (fun _ h_ => h_.1))) hb); have n2_ := Aside0.mk (blk_below (g := gb196) (o := .cells #[.int .i64 a1_0, .int .i64 a1_1] 25 (0, 0)) (by (iterate 2 (with_reducible repeat (first | refine blk_drewN ?_ _ | refine blk_drew ?_ | refine blk_alloc ?_ _)); refine blk_far ?_ NB196_205.out _); exact bg BK196.out) hb); have n3_ := Aside0.mk (blk_below (g := gb205) (o := .cells #[.int .i64 ((rd_T25 t198 x19_1).f0), .int .i64 ((rd_T25 t198 x19_1).f1)] 25 (0, 0)) (by exact pt2 (bg BK205.out)) hb); have n4_ := Aside0.mk (below_step (bs HB.out) hb); clear HO_5; clear HO_17; clear BK196; clear BK205; clear HB; have HO_5 := n0_; have HO_17 := n1_; have BK196 := n2_; have BK205 := n3_; have HB := n4_; clear n0_ n1_ n2_ n3_ n4_; (try clear hb); (try clear hb2); (try clear hk); (try clear hi)) | ((with_reducible refine gate_dst (N := 9) rfl ?_); refine box_event ?hg (N := 9) ?hd (cs := #[.int .i64 0, .int .i64 0]) (t := 25) ?hr ?_; (case hd => rfl); (case hg => rfl); (case hr => first | (go_simp; done) | (go_simp; rfl)); intro gb209 hg w24 hbox hb; have n0_ := Aside0.mk (Kd.R_below (Kd.R_elderB (rq HO_5.out) gb209 (Nat.le_of_eq hg.symm)) hb); have n1_ := Aside0.mk (Kd.R_below (Kd.R_elderB (rq HO_17.out) gb209 (Nat.le_of_eq hg.symm)) hb); have n2_ := Aside0.mk (blk_below (bg BK196.out) hb); have n3_ := Aside0.mk (blk_below (bg BK205.out) hb); have n4_ := Aside0.mk (below_step (bs HB.out) hb); have n5_ := Aside0.mk (hbox); have n6_ := Aside0.mk ((by rw [hg]; exact (below_size (bs HB.out)) : w.heap.size ≤ gb209)); have n7_ := n6_; have n8_ := Aside0.mk ((by rw [hg]; exact Nat.ne_of_lt (blk_lt (bg BK196.out)) : gb196 ≠ gb209)); have n9_ := Aside0.mk ((by rw [hg]; exact Nat.ne_of_gt (blk_lt (bg BK196.out)) : gb209 ≠ gb196)); have n10_ := Aside0.mk ((by rw [hg]; exact Nat.ne_of_lt (blk_lt (bg BK205.out)) : gb205 ≠ gb209)); have n11_ := Aside0.mk ((by rw [hg]; exact Nat.ne_of_gt (blk_lt (bg BK205.out)) : gb209 ≠ gb205)); clear HO_5; clear HO_17; clear BK196; clear BK205; clear HB; have HO_5 := n0_; have HO_17 := n1_; have BK196 := n2_; have BK205 := n3_; have HB := n4_; have BK209 := n5_; have GW209 := n6_; have GE209 := n7_; have NB196_209 := n8_; have NB209_196 := n9_; have NB205_209 := n10_; have NB209_205 := n11_; clear n0_ n1_ n2_ n3_ n4_ n5_ n6_ n7_ n8_ n9_ n10_ n11_; clear hb hbox hg; have hnb25 := NB209_196.out; have hnc25 := NB196_209.out; have hnb26 := NB209_205.out; have hnc26 := NB205_209.out; obtain ⟨hcz27_0, hcz27_1⟩ := bc2 BK209.out; obtain ⟨hfz27_0, hfz27_1⟩ := bf2 BK209.out) | ((with_reducible refine gate_builtin (b := .append) (xs := #[.tmp 35, .tmp 40]) rfl ?_); at_builtin; refine Kd.R_append k25 (w0 := w) w.heap.size rfl (.tmp 35) (.tmp 40) 22 25 (.agg #[(.int .i64 0), (.int .i64 0)]) 16 rfl Try.underlying22 info25 rfl (by decide) (by omega) u5 x5_1 (⟨x6_1, t206⟩ : S25) [.int .i64 x6_1, .int .i64 t206] (fun k_ => some k_ ≠ (.slice (some ad204) t198.length co11 : Value).ownBlock ∧ k_ ≠ gb196 ∧ k_ ≠ gb205 ∧ k_ ≠ gb209) (fun _ => False) rfl (by first | (go_simp; done) | (go_simp; rfl)) ?aP (fun _ hk => hk.elim) ?aF ?aO ?aB ?aS ?aL ?_; (case aP => exact k25_mkM _ _ _ (⟨x6_1, t206⟩ : S25)); (case aB => exact (bs HB.out)); (case aF => exact (fun k_ hk => ⟨Kd.fresh' (Kd.R_lt (by (with_reducible repeat (first | apply Kd.R_alloc | apply Kd.R_drewN | apply Kd.R_drew)); exact (Kd.R_mono (Kd.R_far (p := ⟨gb209, 1, none⟩) (Kd.R_far (p := ⟨gb209, 0, none⟩) (Kd.R_mono HO_17.out (fun k_ hk => (⟨hk, hk.2⟩ : _ ∧ k_ ≠ gb209))) (fun _ hk => hk.2) (.int .i64 t206)) (fun _ hk => hk.2) (.int .i64 t207)) (fun _ h_ => h_.1)))) k_ hk, Kd.freshB (g := gb196) (o := .cells #[.int .i64 a1_0, .int .i64 a1_1] 25 (0, 0)) (by (iterate 2 (with_reducible repeat (first | refine blk_drewN ?_ _ | refine blk_drew ?_ | refine blk_alloc ?_ _)); refine blk_far ?_ NB196_209.out _); exact bg BK196.out) k_ hk, Kd.freshB (g := gb205) (o := .cells #[.int .i64 ((rd_T25 t198 x19_1).f0), .int .i64 ((rd_T25 t198 x19_1).f1)] 25 (0, 0)) (by (iterate 2 (with_reducible repeat (first | refine blk_drewN ?_ _ | refine blk_drew ?_ | refine blk_alloc ?_ _)); refine blk_far ?_ NB205_209.out _); exact bg BK205.out) k_ hk, Kd.freshB (g := gb209) (o := .cells #[.int .i64 t206, .int .i64 t207] 25 (0, 0)) (by exact pt2 (bg BK209.out)) k_ hk⟩)); (case aO => exact (by (with_reducible repeat (first | apply Kd.R_alloc | apply Kd.R_drewN | apply Kd.R_drew)); exact Kd.R_mono (Kd.R_far (p := ⟨gb209, 1, none⟩) (Kd.R_far (p := ⟨gb209, 0, none⟩) (Kd.R_mono HO_5.out (fun k_ hk => (⟨hk, hk.2⟩ : _ ∧ k_ ≠ gb209))) (fun _ hk => hk.2) (.int .i64 t206)) (fun _ hk => hk.2) (.int .i64 t207)) (fun _ hk => ⟨hk.1.1.1.1, ⟨hk.1.1.1.2, ⟨hk.1.1.2, hk.1.2⟩⟩⟩))); (case aS => exact (below_size (bs HB.out))); (case aL => have := LMc18.out; omega); intro v211 w28 ho hb hg hat; rw [← Ny210.out] at ho; have n0_ := Aside0.mk (Kd.R_after (ok := (fun k_ => k_ ≠ gb196 ∧ k_ ≠ gb205 ∧ k_ ≠ gb209)) (by (with_reducible repeat (first | apply Kd.R_alloc | apply Kd.R_drewN | apply Kd.R_drew)); exact Kd.R_mono (Kd.R_far (p := ⟨gb209, 1, none⟩) (Kd.R_far (p := ⟨gb209, 0, none⟩) (Kd.R_mono HO_17.out (fun k_ hk => (⟨hk, hk.2⟩ : _ ∧ k_ ≠ gb209))) (fun _ hk => hk.2) (.int .i64 t206)) (fun _ hk => hk.2) (.int .i64 t207)) (fun _ hk => ⟨⟨hk.1.1.1.2, ⟨hk.1.1.2, hk.1.2⟩⟩, hk.1.1.1.1⟩)) hg hat); have n1_ := Aside0.mk (blk_grown (g := gb196) (o := .cells #[.int .i64 a1_0, .int .i64 a1_1] 25 (0, 0)) (by (iterate 2 (with_reducible repeat (first | refine blk_drewN ?_ _ | refine blk_drew ?_ | refine blk_alloc ?_ _)); refine blk_far ?_ NB196_209.out _); exact bg BK196.out) hg (Kd.R_away HO_5.out (fun _ hk => hk.1.1.2))); have n2_ := Aside0.mk (blk_grown (g := gb205) (o := .cells #[.int .i64 ((rd_T25 t198 x19_1).f0), .int .i64 ((rd_T25 t198 x19_1).f1)] 25 (0, 0)) (by (iterate 2 (with_reducible repeat (first | refine blk_drewN ?_ _ | refine blk_drew ?_ | refine blk_alloc ?_ _)); refine blk_far ?_ NB205_209.out _); exact bg BK205.out) hg (Kd.R_away HO_5.out (fun _ hk => hk.1.2))); have n3_ := Aside0.mk (blk_grown (g := gb209) (o := .cells #[.int .i64 t206, .int .i64 t207] 25 (0, 0)) (by exact pt2 (bg BK209.out)) hg (Kd.R_away HO_5.out (fun _ hk => hk.2))); have n4_ := Aside0.mk (hb); have n5_ := Aside0.mk (ho); clear HO_17; clear BK196; clear BK205; clear BK209; clear HB; clear HO_5; have HO_17 := n0_; have BK196 := n1_; have BK205 := n2_; have BK209 := n3_; have HB := n4_; have HO212 := n5_; clear n0_ n1_ n2_ n3_ n4_ n5_; clear ho hb hg hat; obtain ⟨hcz29_0, hcz29_1⟩ := bc2 BK209.out; obtain ⟨hfz29_0, hfz29_1⟩ := bf2 BK209.out))
          go_roundg k1
          case measure => have := HK1.out; omega
          case rel => exact ⟨(y210), (t207), (wrap64 (x19_1 + 1)), (by first | rfl | (simp; done) | (simp [*]; done)), (by first | rfl | (simp; done) | (simp [*]; done)), H', ⟨by have := HK1.out; omega⟩, ⟨by (with_reducible repeat (first | apply Kd.R_alloc | apply Kd.R_drewN | apply Kd.R_drew)); exact Kd.R_mono HO212.out (fun _ hk => ⟨hk.1, hk.2.1⟩)⟩, ⟨by (with_reducible repeat (first | apply Kd.R_alloc | apply Kd.R_drewN | apply Kd.R_drew)); exact Kd.R_mono HO_17.out (fun _ hk => ⟨hk.2, hk.1.1⟩)⟩, ⟨bg BK196.out⟩, ⟨bs HB.out⟩⟩
         ·
          rw [if_neg c18] at H
          exact absurd H (by simp)
        ·
         rw [if_neg c17] at H
         have c17b0 : decide (x6_1 < t206) = false := decide_eq_false c17
         clear c17
         have H' := Aside0.mk H
         clear H
         have p204 : 0 ≤ (x19_1 : Int) := of_decide_eq_true (by first | (with_reducible assumption) | assumption)
         have q204 : x19_1 < (t198.length : Int) := of_decide_eq_true (by first | (with_reducible assumption) | assumption)
         obtain ⟨ad204, e204, hx204_0, hx204_1⟩ := at_T25 (Kd.R_reads' HO_17.out).2.2 x19_1 p204 q204
         cases e204
         replace p204 := eq_true p204
         replace q204 := eq_true q204
         go_wp2_with (first | ((with_reducible refine gate_dst (N := 8) rfl ?_); refine box_event ?hg (N := 8) ?hd (cs := #[.int .i64 0, .int .i64 0]) (t := 25) ?hr ?_; (case hd => rfl); (case hg => rfl); (case hr => first | (go_simp; done) | (go_simp; rfl)); intro gb205 hg w30 hbox hb; have n0_ := Aside0.mk (Kd.R_below (Kd.R_elderB (rq HO_5.out) gb205 (Nat.le_of_eq hg.symm)) hb); have n1_ := Aside0.mk (Kd.R_below (Kd.R_elderB (rq HO_17.out) gb205 (Nat.le_of_eq hg.symm)) hb); have n2_ := Aside0.mk (blk_below (bg BK196.out) hb); have n3_ := Aside0.mk (below_step (bs HB.out) hb); have n4_ := Aside0.mk (hbox); have n5_ := Aside0.mk ((by rw [hg]; exact (below_size (bs HB.out)) : w.heap.size ≤ gb205)); have n6_ := n5_; have n7_ := Aside0.mk ((by rw [hg]; exact Nat.ne_of_lt (blk_lt (bg BK196.out)) : gb196 ≠ gb205)); have n8_ := Aside0.mk ((by rw [hg]; exact Nat.ne_of_gt (blk_lt (bg BK196.out)) : gb205 ≠ gb196)); clear HO_5; clear HO_17; clear BK196; clear HB; have HO_5 := n0_; have HO_17 := n1_; have BK196 := n2_; have HB := n3_; have BK205 := n4_; have GW205 := n5_; have GE205 := n6_; have NB196_205 := n7_; have NB205_196 := n8_; clear n0_ n1_ n2_ n3_ n4_ n5_ n6_ n7_ n8_; clear hb hbox hg; have hnb31 := NB205_196.out; have hnc31 := NB196_205.out; obtain ⟨hcz32_0, hcz32_1⟩ := bc2 BK205.out; obtain ⟨hfz32_0, hfz32_1⟩ := bf2 BK205.out; obtain ⟨hcz33_0, hcz33_1⟩ := bc2 BK196.out; obtain ⟨hfz33_0, hfz33_1⟩ := bf2 BK196.out) | ((with_reducible refine gate_callee (f := 15) rfl ?_); refine goesL_ (some 26) rfl rfl Try.func15 (by kernel_rfl) rfl #[.agg #[.int .i64 ((rd_T25 t198 x19_1).f0), .int .i64 ((rd_T25 t198 x19_1).f1)], .agg #[.int .i64 a1_0, .int .i64 a1_1]] rfl (by (try simp only [List.map_toArray, List.map_cons, List.map_nil]); first | done | rfl | (simp only [List.length_drop, List.length_take]; rfl)) ?_; (with_reducible refine (span_Common.calls ((rd_T25 t198 x19_1).f0) ((rd_T25 t198 x19_1).f1) a1_0 a1_1 t206 t207 true _ A15.out).mono ?_); rintro e w34 ⟨rfl, hb⟩; refine ⟨_, rfl, ?_⟩; have n0_ := Aside0.mk (Kd.R_below (by (with_reducible repeat (first | apply Kd.R_alloc | apply Kd.R_drewN | apply Kd.R_drew)); exact (Kd.R_mono (Kd.R_far (p := ⟨gb205, 1, none⟩) (Kd.R_far (p := ⟨gb205, 0, none⟩) (Kd.R_mono HO_5.out (fun k_ hk => (⟨hk, hk.2⟩ : _ ∧ k_ ≠ gb205))) (fun _ hk => hk.2) (.int .i64 ((rd_T25 t198 x19_1).f0))) (fun _ hk => hk.2) (.int .i64 ((rd_T25 t198 x19_1).f1))) (fun _ h_ => h_.1))) hb); have n1_ := Aside0.mk (Kd.R_below (by (with_reducible repeat (first | apply Kd.R_alloc | apply Kd.R_drewN | apply Kd.R_drew)); exact (Kd.R_mono (Kd.R_far (p := ⟨gb205, 1, none⟩) (Kd.R_far (p := ⟨gb205, 0, none⟩) (Kd.R_mono HO_17.out (fun k_ hk => (⟨hk, hk.2⟩ : _ ∧ k_ ≠ gb205))) (fun _ hk => hk.2) (.int .i64 ((rd_T25 t198 x19_1).f0))) (fun _ hk => hk.2) (.int .i64 ((rd_T25 t198 x19_1).f1))) (fun _ h_ => h_.1))) hb); have n2_ := Aside0.mk (blk_below (g := gb196) (o := .cells #[.int .i64 a1_0, .int .i64 a1_1] 25 (0, 0)) (by (iterate 2 (with_reducible repeat (first | refine blk_drewN ?_ _ | refine blk_drew ?_ | refine blk_alloc ?_ _)); refine blk_far ?_ NB196_205.out _); exact bg BK196.out) hb); have n3_ := Aside0.mk (blk_below (g := gb205) (o := .cells #[.int .i64 ((rd_T25 t198 x19_1).f0), .int .i64 ((rd_T25 t198 x19_1).f1)] 25 (0, 0)) (by exact pt2 (bg BK205.out)) hb); have n4_ := Aside0.mk (below_step (bs HB.out) hb); clear HO_5; clear HO_17; clear BK196; clear BK205; clear HB; have HO_5 := n0_; have HO_17 := n1_; have BK196 := n2_; have BK205 := n3_; have HB := n4_; clear n0_ n1_ n2_ n3_ n4_; (try clear hb); (try clear hb2); (try clear hk); (try clear hi)) | ((with_reducible refine gate_dst (N := 9) rfl ?_); refine box_event ?hg (N := 9) ?hd (cs := #[.int .i64 0, .int .i64 0]) (t := 25) ?hr ?_; (case hd => rfl); (case hg => rfl); (case hr => first | (go_simp; done) | (go_simp; rfl)); intro gb209 hg w35 hbox hb; have n0_ := Aside0.mk (Kd.R_below (Kd.R_elderB (rq HO_5.out) gb209 (Nat.le_of_eq hg.symm)) hb); have n1_ := Aside0.mk (Kd.R_below (Kd.R_elderB (rq HO_17.out) gb209 (Nat.le_of_eq hg.symm)) hb); have n2_ := Aside0.mk (blk_below (bg BK196.out) hb); have n3_ := Aside0.mk (blk_below (bg BK205.out) hb); have n4_ := Aside0.mk (below_step (bs HB.out) hb); have n5_ := Aside0.mk (hbox); have n6_ := Aside0.mk ((by rw [hg]; exact (below_size (bs HB.out)) : w.heap.size ≤ gb209)); have n7_ := n6_; have n8_ := Aside0.mk ((by rw [hg]; exact Nat.ne_of_lt (blk_lt (bg BK196.out)) : gb196 ≠ gb209)); have n9_ := Aside0.mk ((by rw [hg]; exact Nat.ne_of_gt (blk_lt (bg BK196.out)) : gb209 ≠ gb196)); have n10_ := Aside0.mk ((by rw [hg]; exact Nat.ne_of_lt (blk_lt (bg BK205.out)) : gb205 ≠ gb209)); have n11_ := Aside0.mk ((by rw [hg]; exact Nat.ne_of_gt (blk_lt (bg BK205.out)) : gb209 ≠ gb205)); clear HO_5; clear HO_17; clear BK196; clear BK205; clear HB; have HO_5 := n0_; have HO_17 := n1_; have BK196 := n2_; have BK205 := n3_; have HB := n4_; have BK209 := n5_; have GW209 := n6_; have GE209 := n7_; have NB196_209 := n8_; have NB209_196 := n9_; have NB205_209 := n10_; have NB209_205 := n11_; clear n0_ n1_ n2_ n3_ n4_ n5_ n6_ n7_ n8_ n9_ n10_ n11_; clear hb hbox hg; have hnb36 := NB209_196.out; have hnc36 := NB196_209.out; have hnb37 := NB209_205.out; have hnc37 := NB205_209.out; obtain ⟨hcz38_0, hcz38_1⟩ := bc2 BK209.out; obtain ⟨hfz38_0, hfz38_1⟩ := bf2 BK209.out))
         go_roundg k1
         case measure => have := HK1.out; omega
         case rel => exact ⟨(x5_1), (t207), (wrap64 (x19_1 + 1)), (by first | rfl | (simp; done) | (simp [*]; done)), (by first | rfl | (simp; done) | (simp [*]; done)), H', ⟨by have := HK1.out; omega⟩, ⟨by (with_reducible repeat (first | apply Kd.R_alloc | apply Kd.R_drewN | apply Kd.R_drew)); exact Kd.R_mono (Kd.R_far (p := ⟨gb209, 1, none⟩) (Kd.R_far (p := ⟨gb209, 0, none⟩) (Kd.R_mono HO_5.out (fun k_ hk => (⟨hk, hk.2⟩ : _ ∧ k_ ≠ gb209))) (fun _ hk => hk.2) (.int .i64 t206)) (fun _ hk => hk.2) (.int .i64 t207)) (fun _ hk => ⟨hk.1.1.1.1, hk.1.1.1.2⟩)⟩, ⟨by (with_reducible repeat (first | apply Kd.R_alloc | apply Kd.R_drewN | apply Kd.R_drew)); exact Kd.R_mono (Kd.R_far (p := ⟨gb209, 1, none⟩) (Kd.R_far (p := ⟨gb209, 0, none⟩) (Kd.R_mono HO_17.out (fun k_ hk => (⟨hk, hk.2⟩ : _ ∧ k_ ≠ gb209))) (fun _ hk => hk.2) (.int .i64 t206)) (fun _ hk => hk.2) (.int .i64 t207)) (fun _ hk => ⟨hk.1.1.1.1, hk.1.1.1.2⟩)⟩, ⟨by (iterate 2 (with_reducible repeat (first | refine blk_drewN ?_ _ | refine blk_drew ?_ | refine blk_alloc ?_ _)); refine blk_far ?_ NB196_209.out _); exact bg BK196.out⟩, ⟨bs HB.out⟩⟩
       ·
        replace c16 := Bool.eq_false_iff.mpr c16
        subst c16
        have H1 : (span_Gaps.l0 k1 x5_1 x6_1 t198 (t198.length : Int) (wrap64 (x19_1 + 1)) a1_0 a1_1) = some r := by rw [if_neg (show ¬ (false = true) by decide)] at H; exact H
        clear H
        have H := H1
        clear H1
        have H' := Aside0.mk H
        clear H
        have p204 : 0 ≤ (x19_1 : Int) := of_decide_eq_true (by first | (with_reducible assumption) | assumption)
        have q204 : x19_1 < (t198.length : Int) := of_decide_eq_true (by first | (with_reducible assumption) | assumption)
        obtain ⟨ad204, e204, hx204_0, hx204_1⟩ := at_T25 (Kd.R_reads' HO_17.out).2.2 x19_1 p204 q204
        cases e204
        replace p204 := eq_true p204
        replace q204 := eq_true q204
        go_wp2_with (first | ((with_reducible refine gate_dst (N := 8) rfl ?_); refine box_event ?hg (N := 8) ?hd (cs := #[.int .i64 0, .int .i64 0]) (t := 25) ?hr ?_; (case hd => rfl); (case hg => rfl); (case hr => first | (go_simp; done) | (go_simp; rfl)); intro gb205 hg w39 hbox hb; have n0_ := Aside0.mk (Kd.R_below (Kd.R_elderB (rq HO_5.out) gb205 (Nat.le_of_eq hg.symm)) hb); have n1_ := Aside0.mk (Kd.R_below (Kd.R_elderB (rq HO_17.out) gb205 (Nat.le_of_eq hg.symm)) hb); have n2_ := Aside0.mk (blk_below (bg BK196.out) hb); have n3_ := Aside0.mk (below_step (bs HB.out) hb); have n4_ := Aside0.mk (hbox); have n5_ := Aside0.mk ((by rw [hg]; exact (below_size (bs HB.out)) : w.heap.size ≤ gb205)); have n6_ := n5_; have n7_ := Aside0.mk ((by rw [hg]; exact Nat.ne_of_lt (blk_lt (bg BK196.out)) : gb196 ≠ gb205)); have n8_ := Aside0.mk ((by rw [hg]; exact Nat.ne_of_gt (blk_lt (bg BK196.out)) : gb205 ≠ gb196)); clear HO_5; clear HO_17; clear BK196; clear HB; have HO_5 := n0_; have HO_17 := n1_; have BK196 := n2_; have HB := n3_; have BK205 := n4_; have GW205 := n5_; have GE205 := n6_; have NB196_205 := n7_; have NB205_196 := n8_; clear n0_ n1_ n2_ n3_ n4_ n5_ n6_ n7_ n8_; clear hb hbox hg; have hnb40 := NB205_196.out; have hnc40 := NB196_205.out; obtain ⟨hcz41_0, hcz41_1⟩ := bc2 BK205.out; obtain ⟨hfz41_0, hfz41_1⟩ := bf2 BK205.out; obtain ⟨hcz42_0, hcz42_1⟩ := bc2 BK196.out; obtain ⟨hfz42_0, hfz42_1⟩ := bf2 BK196.out) | ((with_reducible refine gate_callee (f := 15) rfl ?_); refine goesL_ (some 26) rfl rfl Try.func15 (by kernel_rfl) rfl #[.agg #[.int .i64 ((rd_T25 t198 x19_1).f0), .int .i64 ((rd_T25 t198 x19_1).f1)], .agg #[.int .i64 a1_0, .int .i64 a1_1]] rfl (by (try simp only [List.map_toArray, List.map_cons, List.map_nil]); first | done | rfl | (simp only [List.length_drop, List.length_take]; rfl)) ?_; (with_reducible refine (span_Common.calls ((rd_T25 t198 x19_1).f0) ((rd_T25 t198 x19_1).f1) a1_0 a1_1 t206 t207 false _ A15.out).mono ?_); rintro e w43 ⟨rfl, hb⟩; refine ⟨_, rfl, ?_⟩; have n0_ := Aside0.mk (Kd.R_below (by (with_reducible repeat (first | apply Kd.R_alloc | apply Kd.R_drewN | apply Kd.R_drew)); exact (Kd.R_mono (Kd.R_far (p := ⟨gb205, 1, none⟩) (Kd.R_far (p := ⟨gb205, 0, none⟩) (Kd.R_mono HO_5.out (fun k_ hk => (⟨hk, hk.2⟩ : _ ∧ k_ ≠ gb205))) (fun _ hk => hk.2) (.int .i64 ((rd_T25 t198 x19_1).f0))) (fun _ hk => hk.2) (.int .i64 ((rd_T25 t198 x19_1).f1))) (fun _ h_ => h_.1))) hb); have n1_ := Aside0.mk (Kd.R_below (by (with_reducible repeat (first | apply Kd.R_alloc | apply Kd.R_drewN | apply Kd.R_drew)); exact (Kd.R_mono (Kd.R_far (p := ⟨gb205, 1, none⟩) (Kd.R_far (p := ⟨gb205, 0, none⟩) (Kd.R_mono HO_17.out (fun k_ hk => (⟨hk, hk.2⟩ : _ ∧ k_ ≠ gb205))) (fun _ hk => hk.2) (.int .i64 ((rd_T25 t198 x19_1).f0))) (fun _ hk => hk.2) (.int .i64 ((rd_T25 t198 x19_1).f1))) (fun _ h_ => h_.1))) hb); have n2_ := Aside0.mk (blk_below (g := gb196) (o := .cells #[.int .i64 a1_0, .int .i64 a1_1] 25 (0, 0)) (by (iterate 2 (with_reducible repeat (first | refine blk_drewN ?_ _ | refine blk_drew ?_ | refine blk_alloc ?_ _)); refine blk_far ?_ NB196_205.out _); exact bg BK196.out) hb); have n3_ := Aside0.mk (blk_below (g := gb205) (o := .cells #[.int .i64 ((rd_T25 t198 x19_1).f0), .int .i64 ((rd_T25 t198 x19_1).f1)] 25 (0, 0)) (by exact pt2 (bg BK205.out)) hb); have n4_ := Aside0.mk (below_step (bs HB.out) hb); clear HO_5; clear HO_17; clear BK196; clear BK205; clear HB; have HO_5 := n0_; have HO_17 := n1_; have BK196 := n2_; have BK205 := n3_; have HB := n4_; clear n0_ n1_ n2_ n3_ n4_; (try clear hb); (try clear hb2); (try clear hk); (try clear hi)) | ((with_reducible refine gate_dst (N := 9) rfl ?_); refine box_event ?hg (N := 9) ?hd (cs := #[.int .i64 0, .int .i64 0]) (t := 25) ?hr ?_; (case hd => rfl); (case hg => rfl); (case hr => first | (go_simp; done) | (go_simp; rfl)); intro gb209 hg w44 hbox hb; have n0_ := Aside0.mk (Kd.R_below (Kd.R_elderB (rq HO_5.out) gb209 (Nat.le_of_eq hg.symm)) hb); have n1_ := Aside0.mk (Kd.R_below (Kd.R_elderB (rq HO_17.out) gb209 (Nat.le_of_eq hg.symm)) hb); have n2_ := Aside0.mk (blk_below (bg BK196.out) hb); have n3_ := Aside0.mk (blk_below (bg BK205.out) hb); have n4_ := Aside0.mk (below_step (bs HB.out) hb); have n5_ := Aside0.mk (hbox); have n6_ := Aside0.mk ((by rw [hg]; exact (below_size (bs HB.out)) : w.heap.size ≤ gb209)); have n7_ := n6_; have n8_ := Aside0.mk ((by rw [hg]; exact Nat.ne_of_lt (blk_lt (bg BK196.out)) : gb196 ≠ gb209)); have n9_ := Aside0.mk ((by rw [hg]; exact Nat.ne_of_gt (blk_lt (bg BK196.out)) : gb209 ≠ gb196)); have n10_ := Aside0.mk ((by rw [hg]; exact Nat.ne_of_lt (blk_lt (bg BK205.out)) : gb205 ≠ gb209)); have n11_ := Aside0.mk ((by rw [hg]; exact Nat.ne_of_gt (blk_lt (bg BK205.out)) : gb209 ≠ gb205)); clear HO_5; clear HO_17; clear BK196; clear BK205; clear HB; have HO_5 := n0_; have HO_17 := n1_; have BK196 := n2_; have BK205 := n3_; have HB := n4_; have BK209 := n5_; have GW209 := n6_; have GE209 := n7_; have NB196_209 := n8_; have NB209_196 := n9_; have NB205_209 := n10_; have NB209_205 := n11_; clear n0_ n1_ n2_ n3_ n4_ n5_ n6_ n7_ n8_ n9_ n10_ n11_; clear hb hbox hg; have hnb45 := NB209_196.out; have hnc45 := NB196_209.out; have hnb46 := NB209_205.out; have hnc46 := NB205_209.out; obtain ⟨hcz47_0, hcz47_1⟩ := bc2 BK209.out; obtain ⟨hfz47_0, hfz47_1⟩ := bf2 BK209.out))
        go_roundg k1
        case measure => have := HK1.out; omega
        case rel => exact ⟨(x5_1), (x6_1), (wrap64 (x19_1 + 1)), (by first | rfl | (simp; done) | (simp [*]; done)), (by first | rfl | (simp; done) | (simp [*]; done)), H', ⟨by have := HK1.out; omega⟩, ⟨by (with_reducible repeat (first | apply Kd.R_alloc | apply Kd.R_drewN | apply Kd.R_drew)); exact Kd.R_mono (Kd.R_far (p := ⟨gb209, 1, none⟩) (Kd.R_far (p := ⟨gb209, 0, none⟩) (Kd.R_mono HO_5.out (fun k_ hk => (⟨hk, hk.2⟩ : _ ∧ k_ ≠ gb209))) (fun _ hk => hk.2) (.int .i64 t206)) (fun _ hk => hk.2) (.int .i64 t207)) (fun _ hk => ⟨hk.1.1.1.1, hk.1.1.1.2⟩)⟩, ⟨by (with_reducible repeat (first | apply Kd.R_alloc | apply Kd.R_drewN | apply Kd.R_drew)); exact Kd.R_mono (Kd.R_far (p := ⟨gb209, 1, none⟩) (Kd.R_far (p := ⟨gb209, 0, none⟩) (Kd.R_mono HO_17.out (fun k_ hk => (⟨hk, hk.2⟩ : _ ∧ k_ ≠ gb209))) (fun _ hk => hk.2) (.int .i64 t206)) (fun _ hk => hk.2) (.int .i64 t207)) (fun _ hk => ⟨hk.1.1.1.1, hk.1.1.1.2⟩)⟩, ⟨by (iterate 2 (with_reducible repeat (first | refine blk_drewN ?_ _ | refine blk_drew ?_ | refine blk_alloc ?_ _)); refine blk_far ?_ NB196_209.out _); exact bg BK196.out⟩, ⟨bs HB.out⟩⟩
      ·
       rw [if_neg c14] at H
       exact absurd H (by simp)
     ·
      rw [if_neg c13] at H
      exact absurd H (by simp)
    ·
     rw [if_neg c12] at H
     have c12b0 : decide (x19_1 < (t198.length : Int)) = false := decide_eq_false c12
     clear c12
     by_cases c48 : x6_1 < a1_1
     ·
      rw [if_pos c48] at H
      have c48b0 : decide (x6_1 < a1_1) = true := decide_eq_true c48
      clear c48
      by_cases c49 : x5_1.length < 8796093022208
      ·
       rw [if_pos c49] at H
       have LMc49 := Aside0.mk c49
       clear c49
       obtain ⟨y201, hy201⟩ : ∃ y_ : List (S25), y_ = (x5_1 ++ [(⟨x6_1, a1_1⟩ : S25)]) := ⟨_, rfl⟩
       replace H : (some y201) = some r := by first | (rw [hy201]; with_reducible exact H) | (have H2_ := (Option.bind_some _ _).symm.trans H; rw [hy201]; with_reducible exact H2_) | (have H2_ := (Option.bind_some _ _).symm.trans H; with_reducible exact H2_) | with_reducible exact H | (rw [hy201]; exact H) | exact H
       have Ny201 := Aside0.mk hy201
       clear hy201
       obtain rfl := Option.some.inj H
       obtain ⟨hcz50_0, hcz50_1⟩ := bc2 BK196.out
       obtain ⟨hfz50_0, hfz50_1⟩ := bf2 BK196.out
       go_wp2_with (first | ((with_reducible refine gate_builtin (b := .append) (xs := #[.tmp 49, .tmp 54]) rfl ?_); at_builtin; refine Kd.R_append k25 (w0 := w) w.heap.size rfl (.tmp 49) (.tmp 54) 22 25 (.agg #[(.int .i64 0), (.int .i64 0)]) 16 rfl Try.underlying22 info25 rfl (by decide) (by omega) u5 x5_1 (⟨x6_1, a1_1⟩ : S25) [.int .i64 x6_1, .int .i64 a1_1] (fun k_ => some k_ ≠ (.slice Ao11 t198.length co11 : Value).ownBlock ∧ k_ ≠ gb196) (fun _ => False) rfl rfl ?aP (fun _ hk => hk.elim) ?aF ?aO ?aB ?aS ?aL ?_; (case aP => exact k25_mkM _ _ _ (⟨x6_1, a1_1⟩ : S25)); (case aB => exact (bs HB.out)); (case aF => exact (fun k_ hk => ⟨Kd.fresh' (Kd.R_lt (rq HO_17.out)) k_ hk, Kd.freshB (g := gb196) (o := .cells #[.int .i64 a1_0, .int .i64 a1_1] 25 (0, 0)) (bg BK196.out) k_ hk⟩)); (case aO => exact (rq HO_5.out)); (case aS => exact (below_size (bs HB.out))); (case aL => have := LMc49.out; omega); intro v202 w51 ho hb hg hat; rw [← Ny201.out] at ho; have n0_ := Aside0.mk (Kd.R_after (ok := (fun k_ => k_ ≠ gb196)) (by (with_reducible repeat (first | apply Kd.R_alloc | apply Kd.R_drewN | apply Kd.R_drew)); exact Kd.R_mono HO_17.out (fun _ hk => ⟨hk.2, hk.1⟩)) hg hat); have n1_ := Aside0.mk (blk_grown (g := gb196) (o := .cells #[.int .i64 a1_0, .int .i64 a1_1] 25 (0, 0)) (bg BK196.out) hg (Kd.R_away HO_5.out (fun _ hk => hk.2))); have n2_ := Aside0.mk (hb); have n3_ := Aside0.mk (ho); clear HO_17; clear BK196; clear HB; clear HO_5; have HO_17 := n0_; have BK196 := n1_; have HB := n2_; have HO203 := n3_; clear n0_ n1_ n2_ n3_; clear ho hb hg hat))
       go_ret
       exact ⟨_, by first | rfl | (simp [errW_none, errW_some] <;> rfl) | (simp [*, errW_none, errW_some] <;> rfl), by (with_reducible repeat (first | apply Kd.R_alloc | apply Kd.R_drewN | apply Kd.R_drew)); exact Kd.R_mono HO203.out (fun _ hk => trivial), bs HB.out⟩
      ·
       rw [if_neg c49] at H
       exact absurd H (by simp)
     ·
      rw [if_neg c48] at H
      have c48b0 : decide (x6_1 < a1_1) = false := decide_eq_false c48
      clear c48
      obtain rfl := Option.some.inj H
      obtain ⟨hcz52_0, hcz52_1⟩ := bc2 BK196.out
      obtain ⟨hfz52_0, hfz52_1⟩ := bf2 BK196.out
      go_wp2
      go_ret
      exact ⟨_, by first | rfl | (simp [errW_none, errW_some] <;> rfl) | (simp [*, errW_none, errW_some] <;> rfl), by (with_reducible repeat (first | apply Kd.R_alloc | apply Kd.R_drewN | apply Kd.R_drew)); exact Kd.R_mono HO_5.out (fun _ hk => trivial), bs HB.out⟩
 ·
  replace c4 := Bool.eq_false_iff.mpr c4
  subst c4
  have H1 : (some ([] : List (S25))) = some r := by rw [if_neg (show ¬ (false = true) by decide)] at H; exact H
  clear H
  have H := H1
  clear H1
  obtain rfl := Option.some.inj H
  go_enter Try.func20, Try.ntmps20
  go_wp2_with (first | ((with_reducible refine gate_dst (N := 3) rfl ?_); refine box_event ?hg (N := 3) ?hd (cs := #[.int .i64 a1_0, .int .i64 a1_1]) (t := 25) ?hr ?_; (case hd => rfl); (case hg => rfl); (case hr => first | (go_simp; done) | (go_simp; rfl)); intro gb196 hg w53 hbox hb; have n0_ := Aside0.mk (below_step (bs HB.out) hb); have n1_ := Aside0.mk (hbox); have n2_ := Aside0.mk ((by rw [hg]; exact (below_size (bs HB.out)) : w.heap.size ≤ gb196)); have n3_ := n2_; clear HB; have HB := n0_; have BK196 := n1_; have GW196 := n2_; have GE196 := n3_; clear n0_ n1_ n2_ n3_; clear hb hbox hg; obtain ⟨hcz54_0, hcz54_1⟩ := bc2 BK196.out; obtain ⟨hfz54_0, hfz54_1⟩ := bf2 BK196.out) | ((with_reducible refine gate_callee (f := 14) rfl ?_); refine goesL_ (some 12) rfl rfl Try.func14 (by kernel_rfl) rfl #[.agg #[.int .i64 a1_0, .int .i64 a1_1]] rfl (by (try simp only [List.map_toArray, List.map_cons, List.map_nil]); first | done | rfl | (simp only [List.length_drop, List.length_take]; rfl)) ?_; (with_reducible refine (span_Valid.calls a1_0 a1_1 false _ A3.out).mono ?_); rintro e w55 ⟨rfl, hb⟩; refine ⟨_, rfl, ?_⟩; have n0_ := Aside0.mk (blk_below (bg BK196.out) hb); have n1_ := Aside0.mk (below_step (bs HB.out) hb); clear BK196; clear HB; have BK196 := n0_; have HB := n1_; clear n0_ n1_; (try clear hb); (try clear hb2); (try clear hk); (try clear hi)))
  go_ret
  exact ⟨_, by first | rfl | (simp [errW_none, errW_some] <;> rfl) | (simp [*, errW_none, errW_some] <;> rfl), by first | exact Kd.R_nil _ _ _ _ _ | exact Kd.N_nil _ _ _ _ _ | exact Kd.V_nil _ _ _ _ _ | exact Kd.Q_nil _ _ _ _ _ | exact Kd.S_nil _ _ _ _ _, bs HB.out⟩

end Go.Proofs.Ytejmegaalfblmaa.H
