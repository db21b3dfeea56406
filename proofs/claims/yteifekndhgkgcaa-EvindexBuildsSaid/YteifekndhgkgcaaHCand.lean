/- evindex.Candidates: what the code computes; no condition. -/
import Derived.Test.YteifekndhgkgcaaHSortI
namespace Go.Proofs.Yteifekndhgkgcaa.H
open Go.RowKit Go.Proofs.YteifekndhgkgcaaW.PrintWords Go.Proofs.YteifekndhgkgcaaW.PrintLast Go.Proofs.YteifekndhgkgcaaW.PrintMore
attribute [local go_sem] max2_int min2_int max_two min_two max_three min_three max_four min_four
set_option linter.unusedVariables false
set_option linter.unusedSimpArgs false
def sortI.f (l : List Int) : Option (List Int) := if l.length < 4611686018427387904 then some (isort l) else none
theorem sortI_out {l r : List Int} (h : sortI.f l = some r) : l.length < 4611686018427387904 ∧ isort l = r := by
  unfold sortI.f at h
  split at h
  · rename_i c
    exact ⟨c, Option.some.inj h⟩
  · cases h
/-! ### evindex_Candidates: function 21 -/
def evindex_Candidates.l0 : Nat → List Int → List (S43) → Int → Int → Int → Int → Int → Int → Int → Option (List Int)
 | 0, _, _, _, _, _, _, _, _, _ => none
 | k + 1, x5, x12, x13, x14, x229000, x229001, x229002, x229003, x229004 => if x14 < x13 then (if 0 ≤ x14 then (if x14 < (x12.length : Int) then (if ((rd_T43 x12 x14).f0) = x229000 then (if x229001 = 0 then (if x5.length + ((rd_T43 x12 x14).f2).length < 17592186044416 then (evindex_Candidates.l0 k (x5 ++ ((rd_T43 x12 x14).f2)) x12 x13 (wrap64 (x14 + 1)) x229000 x229001 x229002 x229003 x229004) else (none)) else (if ((rd_T43 x12 x14).f1) = x229001 then (if x5.length + ((rd_T43 x12 x14).f2).length < 17592186044416 then (evindex_Candidates.l0 k (x5 ++ ((rd_T43 x12 x14).f2)) x12 x13 (wrap64 (x14 + 1)) x229000 x229001 x229002 x229003 x229004) else (none)) else (evindex_Candidates.l0 k x5 x12 x13 (wrap64 (x14 + 1)) x229000 x229001 x229002 x229003 x229004))) else (evindex_Candidates.l0 k x5 x12 x13 (wrap64 (x14 + 1)) x229000 x229001 x229002 x229003 x229004)) else (none)) else (none)) else ((sortI.f x5).bind fun t237 => (some t237))
def evindex_Candidates.f (k : Nat) (a0_0 : Int) (l0_1 : List (S43)) (a1_0 : Int) (a1_1 : Int) (a1_2 : Int) (a1_3 : Int) (a1_4 : Int) : Option (List Int) := if a1_0 = (-1) then (some ([] : List Int)) else (evindex_Candidates.l0 k ([] : List Int) l0_1 (l0_1.length : Int) 0 a1_0 a1_1 a1_2 a1_3 a1_4)
theorem evindex_Candidates.mono_l : ∀ k, (∀ y0 y1 y2 y3 y4 y5 y6 y7 y8, LeO (evindex_Candidates.l0 k y0 y1 y2 y3 y4 y5 y6 y7 y8) (evindex_Candidates.l0 (k + 1) y0 y1 y2 y3 y4 y5 y6 y7 y8))
 | 0 => fun _ _ _ _ _ _ _ _ _ r h => by simp [evindex_Candidates.l0] at h
 | k + 1 => by
  have ih0 := evindex_Candidates.mono_l k
  ·
   intro y0 y1 y2 y3 y4 y5 y6 y7 y8
   unfold evindex_Candidates.l0
   repeat' first
   | (with_reducible exact ih0 _ _ _ _ _ _ _ _ _)
   | (with_reducible exact LeO.refl _)
   | (with_reducible exact LeO.none _)
   | (with_reducible refine LeO.ite ?_ ?_)
   | (with_reducible refine LeO.bind ?_ (fun _ => ?_))
   | exact ih0 _ _ _ _ _ _ _ _ _
   | exact LeO.none _
   | refine LeO.ite ?_ ?_
   | refine LeO.bind ?_ (fun _ => ?_)
theorem evindex_Candidates.mono : ∀ a0 a1 a2 a3 a4 a5 a6 k, LeO (evindex_Candidates.f k a0 a1 a2 a3 a4 a5 a6) (evindex_Candidates.f (k + 1) a0 a1 a2 a3 a4 a5 a6) := by
 intro a0 a1 a2 a3 a4 a5 a6 k
 have ih0 := evindex_Candidates.mono_l k
 unfold evindex_Candidates.f
 repeat' first
   | (with_reducible exact ih0 _ _ _ _ _ _ _ _ _)
   | (with_reducible exact LeO.refl _)
   | (with_reducible exact LeO.none _)
   | (with_reducible refine LeO.ite ?_ ?_)
   | (with_reducible refine LeO.bind ?_ (fun _ => ?_))
   | exact ih0 _ _ _ _ _ _ _ _ _
   | exact LeO.none _
   | refine LeO.ite ?_ ?_
   | refine LeO.bind ?_ (fun _ => ?_)
set_option maxHeartbeats 8000000 in
set_option maxRecDepth 100000 in
theorem evindex_Candidates.calls (k : Nat) (a0_0 : Int) (A0_1 : Option Addr) (c0_1 : Nat) (l0_1 : List (S43)) (a1_0 : Int) (a1_1 : Int) (a1_2 : Int) (a1_3 : Int) (a1_4 : Int) (r : List Int) (w : World) (hr0_1 : Kd.C k43 w A0_1 l0_1.length l0_1) (hc0_1 : l0_1.length ≤ c0_1) (h : evindex_Candidates.f k a0_0 l0_1 a1_0 a1_1 a1_2 a1_3 a1_4 = some r) :
  Calls Try.prog 21 #[.agg #[.int .i64 a0_0, .slice A0_1 l0_1.length c0_1], .agg #[.int .i64 a1_0, .int .i64 a1_1, .int .i64 a1_2, .int .i64 a1_3, .int .i64 a1_4]] w fun e w' => ∃ v0_ : Value, e = .returned (v0_) ∧ Kd.R (Kd.int .i64) 3 w' w.heap.size (fun _ => True) v0_ r ∧ Below w.heap.size w w' := by
 have hu27 := Try.underlying27
 have hu34 := Try.underlying34
 have hu43 := Try.underlying43
 have HR0_1 := Aside0.mk hr0_1
 have HC0_1 := Aside0.mk hc0_1
 clear hr0_1 hc0_1
 have HB := Aside0.mk (Below.refl w.heap.size w)
 have H : (if a1_0 = (-1) then (some ([] : List Int)) else (evindex_Candidates.l0 k ([] : List Int) l0_1 (l0_1.length : Int) 0 a1_0 a1_1 a1_2 a1_3 a1_4)) = some r := h
 clear h
 by_cases c3 : a1_0 = (-1)
 ·
  rw [if_pos c3] at H
  have c3b0 : (a1_0 == (-1)) = true := beq_iff_eq.mpr c3
  have c3b1 : (a1_0 != (-1)) = false := bne_eq_false_iff_eq.mpr c3
  clear c3
  obtain rfl := Option.some.inj H
  go_enter Try.func21, Try.ntmps21
  go_wp2_with (first | ((with_reducible refine gate_dst (N := 2) rfl ?_); refine box_event ?hg (N := 2) ?hd (cs := #[.int .i64 a0_0, .slice A0_1 l0_1.length c0_1]) (t := 27) ?hr ?_; (case hd => rfl); (case hg => rfl); (case hr => first | (go_simp; done) | (go_simp; rfl)); intro gb227 hg w4 hbox hb; have n0_ := Aside0.mk (below_step (bs HB.out) hb); have n1_ := Aside0.mk (hbox); have n2_ := Aside0.mk ((by rw [hg]; exact (below_size (bs HB.out)) : w.heap.size ≤ gb227)); have n3_ := n2_; clear HB; have HB := n0_; have BK227 := n1_; have GW227 := n2_; have GE227 := n3_; clear n0_ n1_ n2_ n3_; clear hb hbox hg) | ((with_reducible refine gate_dst (N := 3) rfl ?_); refine box_event ?hg (N := 3) ?hd (cs := #[.int .i64 a1_0, .int .i64 a1_1, .int .i64 a1_2, .int .i64 a1_3, .int .i64 a1_4]) (t := 34) ?hr ?_; (case hd => rfl); (case hg => rfl); (case hr => first | (go_simp; done) | (go_simp; rfl)); intro gb228 hg w5 hbox hb; have n0_ := Aside0.mk (blk_below (bg BK227.out) hb); have n1_ := Aside0.mk (below_step (bs HB.out) hb); have n2_ := Aside0.mk (hbox); have n3_ := Aside0.mk ((by rw [hg]; exact (below_size (bs HB.out)) : w.heap.size ≤ gb228)); have n4_ := n3_; have n5_ := Aside0.mk ((by rw [hg]; exact Nat.ne_of_lt (blk_lt (bg BK227.out)) : gb227 ≠ gb228)); have n6_ := Aside0.mk ((by rw [hg]; exact Nat.ne_of_gt (blk_lt (bg BK227.out)) : gb228 ≠ gb227)); clear BK227; clear HB; have BK227 := n0_; have HB := n1_; have BK228 := n2_; have GW228 := n3_; have GE228 := n4_; have NB227_228 := n5_; have NB228_227 := n6_; clear n0_ n1_ n2_ n3_ n4_ n5_ n6_; clear hb hbox hg; have hnb6 := NB228_227.out; have hnc6 := NB227_228.out; obtain ⟨hcz7_0, hcz7_1, hcz7_2, hcz7_3, hcz7_4⟩ := bc5 BK228.out; obtain ⟨hfz7_0, hfz7_1, hfz7_2, hfz7_3, hfz7_4⟩ := bf5 BK228.out))
  go_ret
  exact ⟨_, by first | rfl | (simp [errW_none, errW_some] <;> rfl) | (simp [*, errW_none, errW_some] <;> rfl), by first | exact Kd.R_nil _ _ _ _ _ | exact Kd.N_nil _ _ _ _ _ | exact Kd.V_nil _ _ _ _ _ | exact Kd.Q_nil _ _ _ _ _ | exact Kd.S_nil _ _ _ _ _, bs HB.out⟩
 ·
  rw [if_neg c3] at H
  have c3b0 : (a1_0 == (-1)) = false := beq_eq_false_iff_ne.mpr c3
  have c3b1 : (a1_0 != (-1)) = true := bne_iff_ne.mpr c3
  have H' := Aside0.mk H
  clear H
  go_enter Try.func21, Try.ntmps21
  go_wp2_with (first | ((with_reducible refine gate_dst (N := 2) rfl ?_); refine box_event ?hg (N := 2) ?hd (cs := #[.int .i64 a0_0, .slice A0_1 l0_1.length c0_1]) (t := 27) ?hr ?_; (case hd => rfl); (case hg => rfl); (case hr => first | (go_simp; done) | (go_simp; rfl)); intro gb227 hg w8 hbox hb; have n0_ := Aside0.mk (below_step (bs HB.out) hb); have n1_ := Aside0.mk (hbox); have n2_ := Aside0.mk ((by rw [hg]; exact (below_size (bs HB.out)) : w.heap.size ≤ gb227)); have n3_ := n2_; clear HB; have HB := n0_; have BK227 := n1_; have GW227 := n2_; have GE227 := n3_; clear n0_ n1_ n2_ n3_; clear hb hbox hg) | ((with_reducible refine gate_dst (N := 3) rfl ?_); refine box_event ?hg (N := 3) ?hd (cs := #[.int .i64 a1_0, .int .i64 a1_1, .int .i64 a1_2, .int .i64 a1_3, .int .i64 a1_4]) (t := 34) ?hr ?_; (case hd => rfl); (case hg => rfl); (case hr => first | (go_simp; done) | (go_simp; rfl)); intro gb228 hg w9 hbox hb; have n0_ := Aside0.mk (blk_below (bg BK227.out) hb); have n1_ := Aside0.mk (below_step (bs HB.out) hb); have n2_ := Aside0.mk (hbox); have n3_ := Aside0.mk ((by rw [hg]; exact (below_size (bs HB.out)) : w.heap.size ≤ gb228)); have n4_ := n3_; have n5_ := Aside0.mk ((by rw [hg]; exact Nat.ne_of_lt (blk_lt (bg BK227.out)) : gb227 ≠ gb228)); have n6_ := Aside0.mk ((by rw [hg]; exact Nat.ne_of_gt (blk_lt (bg BK227.out)) : gb228 ≠ gb227)); clear BK227; clear HB; have BK227 := n0_; have HB := n1_; have BK228 := n2_; have GW228 := n3_; have GE228 := n4_; have NB227_228 := n5_; have NB228_227 := n6_; clear n0_ n1_ n2_ n3_ n4_ n5_ n6_; clear hb hbox hg; have hnb10 := NB228_227.out; have hnc10 := NB227_228.out; obtain ⟨hcz11_0, hcz11_1, hcz11_2, hcz11_3, hcz11_4⟩ := bc5 BK228.out; obtain ⟨hfz11_0, hfz11_1, hfz11_2, hfz11_3, hfz11_4⟩ := bf5 BK228.out; obtain ⟨hcz12_0, hcz12_1⟩ := bc2 BK227.out; obtain ⟨hfz12_0, hfz12_1⟩ := bf2 BK227.out))
  go_loopg [5, 14] k (fun kq v5 v14 w' => ∃ (x5_1 : List Int) (x14_1 : Int), v14 = .int .i64 x14_1 ∧ Aside0 (evindex_Candidates.l0 kq x5_1 l0_1 (l0_1.length : Int) x14_1 a1_0 a1_1 a1_2 a1_3 a1_4 = some r) ∧ Aside0 (kq ≤ k) ∧ Aside0 (Kd.R (Kd.int .i64) 3 w' w.heap.size (fun _ => True) v5 x5_1) ∧ Aside0 (w'.heap[gb227]? = some (.cells #[.int .i64 a0_0, (.slice A0_1 l0_1.length c0_1)] 27 (0, 0))) ∧ Aside0 (w'.heap[gb228]? = some (.cells #[.int .i64 a1_0, .int .i64 a1_1, .int .i64 a1_2, .int .i64 a1_3, .int .i64 a1_4] 34 (0, 0))) ∧ Aside0 (Below w.heap.size w w'))
  case atStart => exact ⟨(([] : List Int)), (0), (by first | rfl | (simp; done) | (simp [*]; done)), H', ⟨Nat.le_refl _⟩, ⟨by first | exact Kd.R_nil _ _ _ _ _ | exact Kd.N_nil _ _ _ _ _ | exact Kd.V_nil _ _ _ _ _ | exact Kd.Q_nil _ _ _ _ _ | exact Kd.S_nil _ _ _ _ _⟩, ⟨bg BK227.out⟩, ⟨bg BK228.out⟩, ⟨bs HB.out⟩⟩
  case round =>
   clear H'
   try clear c1
   try clear c2
   try clear p2
   try clear c3
   try clear c3b0
   try clear c3b1
   try clear c6
   try clear c10
   try clear hcz11_0 hcz11_1 hcz11_2 hcz11_3 hcz11_4
   try clear hcz12_0 hcz12_1
   try clear hcz7_0 hcz7_1 hcz7_2 hcz7_3 hcz7_4
   try clear hfz11_0 hfz11_1 hfz11_2 hfz11_3 hfz11_4
   try clear hfz12_0 hfz12_1
   try clear hfz7_0 hfz7_1 hfz7_2 hfz7_3 hfz7_4
   obtain ⟨x5_1, x14_1, rfl, HA, HK1, HO_5, BK227, BK228, HB⟩ := hrel
   cases gk with
   | zero => exact absurd HA.out (by simp [evindex_Candidates.l0])
   | succ k1 =>
    have H := HA.out
    clear HA
    simp only [evindex_Candidates.l0] at H
    by_cases c13 : x14_1 < (l0_1.length : Int)
    ·
     rw [if_pos c13] at H
     have c13b0 : decide (x14_1 < (l0_1.length : Int)) = true := decide_eq_true c13
     clear c13
     by_cases c14 : 0 ≤ x14_1
     ·
      rw [if_pos c14] at H
      have c14b0 : decide (0 ≤ x14_1) = true := decide_eq_true c14
      clear c14
      by_cases c15 : x14_1 < (l0_1.length : Int)
      ·
       rw [if_pos c15] at H
       have c15b0 : decide (x14_1 < (l0_1.length : Int)) = true := decide_eq_true c15
       clear c15
       by_cases c16 : ((rd_T43 l0_1 x14_1).f0) = a1_0
       ·
        rw [if_pos c16] at H
        have c16b0 : (((rd_T43 l0_1 x14_1).f0) == a1_0) = true := beq_iff_eq.mpr c16
        have c16b1 : (((rd_T43 l0_1 x14_1).f0) != a1_0) = false := bne_eq_false_iff_eq.mpr c16
        clear c16
        by_cases c17 : a1_1 = 0
        ·
         rw [if_pos c17] at H
         have c17b0 : (a1_1 == 0) = true := beq_iff_eq.mpr c17
         have c17b1 : (a1_1 != 0) = false := bne_eq_false_iff_eq.mpr c17
         clear c17
         by_cases c18 : x5_1.length + ((rd_T43 l0_1 x14_1).f2).length < 17592186044416
         ·
          rw [if_pos c18] at H
          have LMc18 := Aside0.mk c18
          clear c18
          obtain ⟨y231, hy231⟩ : ∃ y_ : List Int, y_ = (x5_1 ++ ((rd_T43 l0_1 x14_1).f2)) := ⟨_, rfl⟩
          replace H : (evindex_Candidates.l0 k1 y231 l0_1 (l0_1.length : Int) (wrap64 (x14_1 + 1)) a1_0 a1_1 a1_2 a1_3 a1_4) = some r := by first | (rw [hy231]; with_reducible exact H) | (have H2_ := (Option.bind_some _ _).symm.trans H; rw [hy231]; with_reducible exact H2_) | (have H2_ := (Option.bind_some _ _).symm.trans H; with_reducible exact H2_) | with_reducible exact H | (rw [hy231]; exact H) | exact H
          have Ny231 := Aside0.mk hy231
          clear hy231
          have H' := Aside0.mk H
          clear H
          have p229 : 0 ≤ (x14_1 : Int) := of_decide_eq_true (by first | (with_reducible assumption) | assumption)
          have q229 : x14_1 < (l0_1.length : Int) := of_decide_eq_true (by first | (with_reducible assumption) | assumption)
          obtain ⟨ad229, A229_2, c229_2, e229, hx229_0, hx229_1, hx229_2, hl229_2, hi229_2⟩ := at_T43 HR0_1.out x14_1 p229 q229
          cases e229
          replace hx229_0 := pw_cell_below HB.out hx229_0
          replace hx229_1 := pw_cell_below HB.out hx229_1
          replace hx229_2 := pw_cell_below HB.out hx229_2
          have HR229_2 := Aside0.mk hi229_2
          have HC229_2 := Aside0.mk hl229_2
          clear hi229_2 hl229_2
          replace p229 := eq_true p229
          replace q229 := eq_true q229
          go_wp2_with (first | ((with_reducible refine gate_dst (N := 7) rfl ?_); refine box_event ?hg (N := 7) ?hd (cs := #[.int .i64 0, .int .i64 0, .slice none 0 0]) (t := 43) ?hr ?_; (case hd => rfl); (case hg => rfl); (case hr => first | (go_simp; done) | (go_simp; rfl)); intro gb230 hg w19 hbox hb; have n0_ := Aside0.mk (Kd.R_below (rq HO_5.out) hb); have n1_ := Aside0.mk (blk_below (bg BK227.out) hb); have n2_ := Aside0.mk (blk_below (bg BK228.out) hb); have n3_ := Aside0.mk (below_step (bs HB.out) hb); have n4_ := Aside0.mk (hbox); have n5_ := Aside0.mk ((by rw [hg]; exact (below_size (bs HB.out)) : w.heap.size ≤ gb230)); have n6_ := n5_; have n7_ := Aside0.mk ((by rw [hg]; exact Nat.ne_of_lt (blk_lt (bg BK227.out)) : gb227 ≠ gb230)); have n8_ := Aside0.mk ((by rw [hg]; exact Nat.ne_of_gt (blk_lt (bg BK227.out)) : gb230 ≠ gb227)); have n9_ := Aside0.mk ((by rw [hg]; exact Nat.ne_of_lt (blk_lt (bg BK228.out)) : gb228 ≠ gb230)); have n10_ := Aside0.mk ((by rw [hg]; exact Nat.ne_of_gt (blk_lt (bg BK228.out)) : gb230 ≠ gb228)); clear HO_5; clear BK227; clear BK228; clear HB; have HO_5 := n0_; have BK227 := n1_; have BK228 := n2_; have HB := n3_; have BK230 := n4_; have GW230 := n5_; have GE230 := n6_; have NB227_230 := n7_; have NB230_227 := n8_; have NB228_230 := n9_; have NB230_228 := n10_; clear n0_ n1_ n2_ n3_ n4_ n5_ n6_ n7_ n8_ n9_ n10_; clear hb hbox hg; have hnb20 := NB230_227.out; have hnc20 := NB227_230.out; have hnb21 := NB230_228.out; have hnc21 := NB228_230.out; obtain ⟨hcz22_0, hcz22_1, hcz22_2⟩ := bc3 BK230.out; obtain ⟨hfz22_0, hfz22_1, hfz22_2⟩ := bf3 BK230.out; have hnb23 := NB228_227.out; have hnc23 := NB227_228.out; obtain ⟨hcz24_0, hcz24_1, hcz24_2, hcz24_3, hcz24_4⟩ := bc5 BK228.out; obtain ⟨hfz24_0, hfz24_1, hfz24_2, hfz24_3, hfz24_4⟩ := bf5 BK228.out) | ((with_reducible refine gate_builtin (b := .append) (xs := #[.tmp 35, .tmp 37]) rfl ?_); at_builtin; refine Kd.R_append_rows (Kd.int .i64) (w0 := w) w.heap.size rfl (.tmp 35) (.tmp 37) 36 3 (.int .i64 0) 8 rfl Try.underlying36 info3 rfl (by decide) (by omega) u5 x5_1 ((rd_T43 l0_1 x14_1).f2) _ _ _ (fun _ => True) (fun _ => False) rfl rfl ?aO ?aR (fun _ _ h => h) (fun _ h => h.elim) ?aF ?aB ?aS ?aL ?_; (case aR => exact Kd.C_below HR229_2.out (bs HB.out)); (case aB => exact (bs HB.out)); (case aF => exact (fun _ _ => trivial)); (case aO => exact (by (with_reducible repeat (first | apply Kd.R_alloc | apply Kd.R_drewN | apply Kd.R_drew)); exact Kd.R_mono (Kd.R_far (p := ⟨gb230, 2, none⟩) (Kd.R_far (p := ⟨gb230, 1, none⟩) (Kd.R_far (p := ⟨gb230, 0, none⟩) (Kd.R_types HO_5.out BK230.out (by decide)) (fun _ hk => hk.2) (.int .i64 ((rd_T43 l0_1 x14_1).f0))) (fun _ hk => hk.2) (.int .i64 ((rd_T43 l0_1 x14_1).f1))) (fun _ hk => hk.2) (.slice A229_2 ((rd_T43 l0_1 x14_1).f2).length c229_2)) (fun _ hk => trivial))); (case aS => exact (below_size (bs HB.out))); (case aL => have := LMc18.out; omega); intro v232 w25 ho hb hg hat; rw [← Ny231.out] at ho; have n0_ := Aside0.mk (blk_grown (g := gb227) (o := .cells #[.int .i64 a0_0, .slice (some ad229) l0_1.length c0_1] 27 (0, 0)) (by (iterate 3 (with_reducible repeat (first | refine blk_drewN ?_ _ | refine blk_drew ?_ | refine blk_alloc ?_ _)); refine blk_far ?_ NB227_230.out _); exact bg BK227.out) hg (Kd.R_ne HO_5.out BK227.out (by decide))); have n1_ := Aside0.mk (blk_grown (g := gb228) (o := .cells #[.int .i64 a1_0, .int .i64 a1_1, .int .i64 a1_2, .int .i64 a1_3, .int .i64 a1_4] 34 (0, 0)) (by (iterate 3 (with_reducible repeat (first | refine blk_drewN ?_ _ | refine blk_drew ?_ | refine blk_alloc ?_ _)); refine blk_far ?_ NB228_230.out _); exact bg BK228.out) hg (Kd.R_ne HO_5.out BK228.out (by decide))); have n2_ := Aside0.mk (blk_grown (g := gb230) (o := .cells #[.int .i64 ((rd_T43 l0_1 x14_1).f0), .int .i64 ((rd_T43 l0_1 x14_1).f1), .slice A229_2 ((rd_T43 l0_1 x14_1).f2).length c229_2] 43 (0, 0)) (by exact pt3 (bg BK230.out)) hg (Kd.R_ne HO_5.out BK230.out (by decide))); have n3_ := Aside0.mk (hb); have n4_ := Aside0.mk (ho); clear BK227; clear BK228; clear BK230; clear HB; clear HO_5; have BK227 := n0_; have BK228 := n1_; have BK230 := n2_; have HB := n3_; have HO233 := n4_; clear n0_ n1_ n2_ n3_ n4_; clear ho hb hg hat))
          go_roundg k1
          case measure => have := HK1.out; omega
          case rel => exact ⟨(y231), (wrap64 (x14_1 + 1)), (by first | rfl | (simp; done) | (simp [*]; done)), H', ⟨by have := HK1.out; omega⟩, ⟨by (with_reducible repeat (first | apply Kd.R_alloc | apply Kd.R_drewN | apply Kd.R_drew)); exact HO233.out⟩, ⟨bg BK227.out⟩, ⟨bg BK228.out⟩, ⟨bs HB.out⟩⟩
         ·
          rw [if_neg c18] at H
          exact absurd H (by simp)
        ·
         rw [if_neg c17] at H
         have c17b0 : (a1_1 == 0) = false := beq_eq_false_iff_ne.mpr c17
         have c17b1 : (a1_1 != 0) = true := bne_iff_ne.mpr c17
         by_cases c26 : ((rd_T43 l0_1 x14_1).f1) = a1_1
         ·
          rw [if_pos c26] at H
          have c26b0 : (((rd_T43 l0_1 x14_1).f1) == a1_1) = true := beq_iff_eq.mpr c26
          have c26b1 : (((rd_T43 l0_1 x14_1).f1) != a1_1) = false := bne_eq_false_iff_eq.mpr c26
          clear c26
          by_cases c27 : x5_1.length + ((rd_T43 l0_1 x14_1).f2).length < 17592186044416
          ·
           rw [if_pos c27] at H
           have LMc27 := Aside0.mk c27
           clear c27
           obtain ⟨y234, hy234⟩ : ∃ y_ : List Int, y_ = (x5_1 ++ ((rd_T43 l0_1 x14_1).f2)) := ⟨_, rfl⟩
           replace H : (evindex_Candidates.l0 k1 y234 l0_1 (l0_1.length : Int) (wrap64 (x14_1 + 1)) a1_0 a1_1 a1_2 a1_3 a1_4) = some r := by first | (rw [hy234]; with_reducible exact H) | (have H2_ := (Option.bind_some _ _).symm.trans H; rw [hy234]; with_reducible exact H2_) | (have H2_ := (Option.bind_some _ _).symm.trans H; with_reducible exact H2_) | with_reducible exact H | (rw [hy234]; exact H) | exact H
           have Ny234 := Aside0.mk hy234
           clear hy234
           have H' := Aside0.mk H
           clear H
           have p229 : 0 ≤ (x14_1 : Int) := of_decide_eq_true (by first | (with_reducible assumption) | assumption)
           have q229 : x14_1 < (l0_1.length : Int) := of_decide_eq_true (by first | (with_reducible assumption) | assumption)
           obtain ⟨ad229, A229_2, c229_2, e229, hx229_0, hx229_1, hx229_2, hl229_2, hi229_2⟩ := at_T43 HR0_1.out x14_1 p229 q229
           cases e229
           replace hx229_0 := pw_cell_below HB.out hx229_0
           replace hx229_1 := pw_cell_below HB.out hx229_1
           replace hx229_2 := pw_cell_below HB.out hx229_2
           have HR229_2 := Aside0.mk hi229_2
           have HC229_2 := Aside0.mk hl229_2
           clear hi229_2 hl229_2
           replace p229 := eq_true p229
           replace q229 := eq_true q229
           go_wp2_with (first | ((with_reducible refine gate_dst (N := 7) rfl ?_); refine box_event ?hg (N := 7) ?hd (cs := #[.int .i64 0, .int .i64 0, .slice none 0 0]) (t := 43) ?hr ?_; (case hd => rfl); (case hg => rfl); (case hr => first | (go_simp; done) | (go_simp; rfl)); intro gb230 hg w28 hbox hb; have n0_ := Aside0.mk (Kd.R_below (rq HO_5.out) hb); have n1_ := Aside0.mk (blk_below (bg BK227.out) hb); have n2_ := Aside0.mk (blk_below (bg BK228.out) hb); have n3_ := Aside0.mk (below_step (bs HB.out) hb); have n4_ := Aside0.mk (hbox); have n5_ := Aside0.mk ((by rw [hg]; exact (below_size (bs HB.out)) : w.heap.size ≤ gb230)); have n6_ := n5_; have n7_ := Aside0.mk ((by rw [hg]; exact Nat.ne_of_lt (blk_lt (bg BK227.out)) : gb227 ≠ gb230)); have n8_ := Aside0.mk ((by rw [hg]; exact Nat.ne_of_gt (blk_lt (bg BK227.out)) : gb230 ≠ gb227)); have n9_ := Aside0.mk ((by rw [hg]; exact Nat.ne_of_lt (blk_lt (bg BK228.out)) : gb228 ≠ gb230)); have n10_ := Aside0.mk ((by rw [hg]; exact Nat.ne_of_gt (blk_lt (bg BK228.out)) : gb230 ≠ gb228)); clear HO_5; clear BK227; clear BK228; clear HB; have HO_5 := n0_; have BK227 := n1_; have BK228 := n2_; have HB := n3_; have BK230 := n4_; have GW230 := n5_; have GE230 := n6_; have NB227_230 := n7_; have NB230_227 := n8_; have NB228_230 := n9_; have NB230_228 := n10_; clear n0_ n1_ n2_ n3_ n4_ n5_ n6_ n7_ n8_ n9_ n10_; clear hb hbox hg; have hnb29 := NB230_227.out; have hnc29 := NB227_230.out; have hnb30 := NB230_228.out; have hnc30 := NB228_230.out; obtain ⟨hcz31_0, hcz31_1, hcz31_2⟩ := bc3 BK230.out; obtain ⟨hfz31_0, hfz31_1, hfz31_2⟩ := bf3 BK230.out; have hnb32 := NB228_227.out; have hnc32 := NB227_228.out; obtain ⟨hcz33_0, hcz33_1, hcz33_2, hcz33_3, hcz33_4⟩ := bc5 BK228.out; obtain ⟨hfz33_0, hfz33_1, hfz33_2, hfz33_3, hfz33_4⟩ := bf5 BK228.out) | ((with_reducible refine gate_builtin (b := .append) (xs := #[.tmp 35, .tmp 37]) rfl ?_); at_builtin; refine Kd.R_append_rows (Kd.int .i64) (w0 := w) w.heap.size rfl (.tmp 35) (.tmp 37) 36 3 (.int .i64 0) 8 rfl Try.underlying36 info3 rfl (by decide) (by omega) u5 x5_1 ((rd_T43 l0_1 x14_1).f2) _ _ _ (fun _ => True) (fun _ => False) rfl rfl ?aO ?aR (fun _ _ h => h) (fun _ h => h.elim) ?aF ?aB ?aS ?aL ?_; (case aR => exact Kd.C_below HR229_2.out (bs HB.out)); (case aB => exact (bs HB.out)); (case aF => exact (fun _ _ => trivial)); (case aO => exact (by (with_reducible repeat (first | apply Kd.R_alloc | apply Kd.R_drewN | apply Kd.R_drew)); exact Kd.R_mono (Kd.R_far (p := ⟨gb230, 2, none⟩) (Kd.R_far (p := ⟨gb230, 1, none⟩) (Kd.R_far (p := ⟨gb230, 0, none⟩) (Kd.R_types HO_5.out BK230.out (by decide)) (fun _ hk => hk.2) (.int .i64 ((rd_T43 l0_1 x14_1).f0))) (fun _ hk => hk.2) (.int .i64 ((rd_T43 l0_1 x14_1).f1))) (fun _ hk => hk.2) (.slice A229_2 ((rd_T43 l0_1 x14_1).f2).length c229_2)) (fun _ hk => trivial))); (case aS => exact (below_size (bs HB.out))); (case aL => have := LMc27.out; omega); intro v235 w34 ho hb hg hat; rw [← Ny234.out] at ho; have n0_ := Aside0.mk (blk_grown (g := gb227) (o := .cells #[.int .i64 a0_0, .slice (some ad229) l0_1.length c0_1] 27 (0, 0)) (by (iterate 3 (with_reducible repeat (first | refine blk_drewN ?_ _ | refine blk_drew ?_ | refine blk_alloc ?_ _)); refine blk_far ?_ NB227_230.out _); exact bg BK227.out) hg (Kd.R_ne HO_5.out BK227.out (by decide))); have n1_ := Aside0.mk (blk_grown (g := gb228) (o := .cells #[.int .i64 a1_0, .int .i64 a1_1, .int .i64 a1_2, .int .i64 a1_3, .int .i64 a1_4] 34 (0, 0)) (by (iterate 3 (with_reducible repeat (first | refine blk_drewN ?_ _ | refine blk_drew ?_ | refine blk_alloc ?_ _)); refine blk_far ?_ NB228_230.out _); exact bg BK228.out) hg (Kd.R_ne HO_5.out BK228.out (by decide))); have n2_ := Aside0.mk (blk_grown (g := gb230) (o := .cells #[.int .i64 ((rd_T43 l0_1 x14_1).f0), .int .i64 ((rd_T43 l0_1 x14_1).f1), .slice A229_2 ((rd_T43 l0_1 x14_1).f2).length c229_2] 43 (0, 0)) (by exact pt3 (bg BK230.out)) hg (Kd.R_ne HO_5.out BK230.out (by decide))); have n3_ := Aside0.mk (hb); have n4_ := Aside0.mk (ho); clear BK227; clear BK228; clear BK230; clear HB; clear HO_5; have BK227 := n0_; have BK228 := n1_; have BK230 := n2_; have HB := n3_; have HO236 := n4_; clear n0_ n1_ n2_ n3_ n4_; clear ho hb hg hat))
           go_roundg k1
           case measure => have := HK1.out; omega
           case rel => exact ⟨(y234), (wrap64 (x14_1 + 1)), (by first | rfl | (simp; done) | (simp [*]; done)), H', ⟨by have := HK1.out; omega⟩, ⟨by (with_reducible repeat (first | apply Kd.R_alloc | apply Kd.R_drewN | apply Kd.R_drew)); exact HO236.out⟩, ⟨bg BK227.out⟩, ⟨bg BK228.out⟩, ⟨bs HB.out⟩⟩
          ·
           rw [if_neg c27] at H
           exact absurd H (by simp)
         ·
          rw [if_neg c26] at H
          have c26b0 : (((rd_T43 l0_1 x14_1).f1) == a1_1) = false := beq_eq_false_iff_ne.mpr c26
          have c26b1 : (((rd_T43 l0_1 x14_1).f1) != a1_1) = true := bne_iff_ne.mpr c26
          have H' := Aside0.mk H
          clear H
          have p229 : 0 ≤ (x14_1 : Int) := of_decide_eq_true (by first | (with_reducible assumption) | assumption)
          have q229 : x14_1 < (l0_1.length : Int) := of_decide_eq_true (by first | (with_reducible assumption) | assumption)
          obtain ⟨ad229, A229_2, c229_2, e229, hx229_0, hx229_1, hx229_2, hl229_2, hi229_2⟩ := at_T43 HR0_1.out x14_1 p229 q229
          cases e229
          replace hx229_0 := pw_cell_below HB.out hx229_0
          replace hx229_1 := pw_cell_below HB.out hx229_1
          replace hx229_2 := pw_cell_below HB.out hx229_2
          have HR229_2 := Aside0.mk hi229_2
          have HC229_2 := Aside0.mk hl229_2
          clear hi229_2 hl229_2
          replace p229 := eq_true p229
          replace q229 := eq_true q229
          go_wp2_with (first | ((with_reducible refine gate_dst (N := 7) rfl ?_); refine box_event ?hg (N := 7) ?hd (cs := #[.int .i64 0, .int .i64 0, .slice none 0 0]) (t := 43) ?hr ?_; (case hd => rfl); (case hg => rfl); (case hr => first | (go_simp; done) | (go_simp; rfl)); intro gb230 hg w35 hbox hb; have n0_ := Aside0.mk (Kd.R_below (rq HO_5.out) hb); have n1_ := Aside0.mk (blk_below (bg BK227.out) hb); have n2_ := Aside0.mk (blk_below (bg BK228.out) hb); have n3_ := Aside0.mk (below_step (bs HB.out) hb); have n4_ := Aside0.mk (hbox); have n5_ := Aside0.mk ((by rw [hg]; exact (below_size (bs HB.out)) : w.heap.size ≤ gb230)); have n6_ := n5_; have n7_ := Aside0.mk ((by rw [hg]; exact Nat.ne_of_lt (blk_lt (bg BK227.out)) : gb227 ≠ gb230)); have n8_ := Aside0.mk ((by rw [hg]; exact Nat.ne_of_gt (blk_lt (bg BK227.out)) : gb230 ≠ gb227)); have n9_ := Aside0.mk ((by rw [hg]; exact Nat.ne_of_lt (blk_lt (bg BK228.out)) : gb228 ≠ gb230)); have n10_ := Aside0.mk ((by rw [hg]; exact Nat.ne_of_gt (blk_lt (bg BK228.out)) : gb230 ≠ gb228)); clear HO_5; clear BK227; clear BK228; clear HB; have HO_5 := n0_; have BK227 := n1_; have BK228 := n2_; have HB := n3_; have BK230 := n4_; have GW230 := n5_; have GE230 := n6_; have NB227_230 := n7_; have NB230_227 := n8_; have NB228_230 := n9_; have NB230_228 := n10_; clear n0_ n1_ n2_ n3_ n4_ n5_ n6_ n7_ n8_ n9_ n10_; clear hb hbox hg; have hnb36 := NB230_227.out; have hnc36 := NB227_230.out; have hnb37 := NB230_228.out; have hnc37 := NB228_230.out; obtain ⟨hcz38_0, hcz38_1, hcz38_2⟩ := bc3 BK230.out; obtain ⟨hfz38_0, hfz38_1, hfz38_2⟩ := bf3 BK230.out; have hnb39 := NB228_227.out; have hnc39 := NB227_228.out; obtain ⟨hcz40_0, hcz40_1, hcz40_2, hcz40_3, hcz40_4⟩ := bc5 BK228.out; obtain ⟨hfz40_0, hfz40_1, hfz40_2, hfz40_3, hfz40_4⟩ := bf5 BK228.out))
          go_roundg k1
          case measure => have := HK1.out; omega
          case rel => exact ⟨(x5_1), (wrap64 (x14_1 + 1)), (by first | rfl | (simp; done) | (simp [*]; done)), H', ⟨by have := HK1.out; omega⟩, ⟨by (with_reducible repeat (first | apply Kd.R_alloc | apply Kd.R_drewN | apply Kd.R_drew)); exact Kd.R_mono (Kd.R_far (p := ⟨gb230, 2, none⟩) (Kd.R_far (p := ⟨gb230, 1, none⟩) (Kd.R_far (p := ⟨gb230, 0, none⟩) (Kd.R_types HO_5.out BK230.out (by decide)) (fun _ hk => hk.2) (.int .i64 ((rd_T43 l0_1 x14_1).f0))) (fun _ hk => hk.2) (.int .i64 ((rd_T43 l0_1 x14_1).f1))) (fun _ hk => hk.2) (.slice A229_2 ((rd_T43 l0_1 x14_1).f2).length c229_2)) (fun _ hk => trivial)⟩, ⟨by (iterate 3 (with_reducible repeat (first | refine blk_drewN ?_ _ | refine blk_drew ?_ | refine blk_alloc ?_ _)); refine blk_far ?_ NB227_230.out _); exact bg BK227.out⟩, ⟨by (iterate 3 (with_reducible repeat (first | refine blk_drewN ?_ _ | refine blk_drew ?_ | refine blk_alloc ?_ _)); refine blk_far ?_ NB228_230.out _); exact bg BK228.out⟩, ⟨bs HB.out⟩⟩
       ·
        rw [if_neg c16] at H
        have c16b0 : (((rd_T43 l0_1 x14_1).f0) == a1_0) = false := beq_eq_false_iff_ne.mpr c16
        have c16b1 : (((rd_T43 l0_1 x14_1).f0) != a1_0) = true := bne_iff_ne.mpr c16
        have H' := Aside0.mk H
        clear H
        have p229 : 0 ≤ (x14_1 : Int) := of_decide_eq_true (by first | (with_reducible assumption) | assumption)
        have q229 : x14_1 < (l0_1.length : Int) := of_decide_eq_true (by first | (with_reducible assumption) | assumption)
        obtain ⟨ad229, A229_2, c229_2, e229, hx229_0, hx229_1, hx229_2, hl229_2, hi229_2⟩ := at_T43 HR0_1.out x14_1 p229 q229
        cases e229
        replace hx229_0 := pw_cell_below HB.out hx229_0
        replace hx229_1 := pw_cell_below HB.out hx229_1
        replace hx229_2 := pw_cell_below HB.out hx229_2
        have HR229_2 := Aside0.mk hi229_2
        have HC229_2 := Aside0.mk hl229_2
        clear hi229_2 hl229_2
        replace p229 := eq_true p229
        replace q229 := eq_true q229
        go_wp2_with (first | ((with_reducible refine gate_dst (N := 7) rfl ?_); refine box_event ?hg (N := 7) ?hd (cs := #[.int .i64 0, .int .i64 0, .slice none 0 0]) (t := 43) ?hr ?_; (case hd => rfl); (case hg => rfl); (case hr => first | (go_simp; done) | (go_simp; rfl)); intro gb230 hg w41 hbox hb; have n0_ := Aside0.mk (Kd.R_below (rq HO_5.out) hb); have n1_ := Aside0.mk (blk_below (bg BK227.out) hb); have n2_ := Aside0.mk (blk_below (bg BK228.out) hb); have n3_ := Aside0.mk (below_step (bs HB.out) hb); have n4_ := Aside0.mk (hbox); have n5_ := Aside0.mk ((by rw [hg]; exact (below_size (bs HB.out)) : w.heap.size ≤ gb230)); have n6_ := n5_; have n7_ := Aside0.mk ((by rw [hg]; exact Nat.ne_of_lt (blk_lt (bg BK227.out)) : gb227 ≠ gb230)); have n8_ := Aside0.mk ((by rw [hg]; exact Nat.ne_of_gt (blk_lt (bg BK227.out)) : gb230 ≠ gb227)); have n9_ := Aside0.mk ((by rw [hg]; exact Nat.ne_of_lt (blk_lt (bg BK228.out)) : gb228 ≠ gb230)); have n10_ := Aside0.mk ((by rw [hg]; exact Nat.ne_of_gt (blk_lt (bg BK228.out)) : gb230 ≠ gb228)); clear HO_5; clear BK227; clear BK228; clear HB; have HO_5 := n0_; have BK227 := n1_; have BK228 := n2_; have HB := n3_; have BK230 := n4_; have GW230 := n5_; have GE230 := n6_; have NB227_230 := n7_; have NB230_227 := n8_; have NB228_230 := n9_; have NB230_228 := n10_; clear n0_ n1_ n2_ n3_ n4_ n5_ n6_ n7_ n8_ n9_ n10_; clear hb hbox hg; have hnb42 := NB230_227.out; have hnc42 := NB227_230.out; have hnb43 := NB230_228.out; have hnc43 := NB228_230.out; obtain ⟨hcz44_0, hcz44_1, hcz44_2⟩ := bc3 BK230.out; obtain ⟨hfz44_0, hfz44_1, hfz44_2⟩ := bf3 BK230.out; have hnb45 := NB228_227.out; have hnc45 := NB227_228.out; obtain ⟨hcz46_0, hcz46_1, hcz46_2, hcz46_3, hcz46_4⟩ := bc5 BK228.out; obtain ⟨hfz46_0, hfz46_1, hfz46_2, hfz46_3, hfz46_4⟩ := bf5 BK228.out))
        go_roundg k1
        case measure => have := HK1.out; omega
        case rel => exact ⟨(x5_1), (wrap64 (x14_1 + 1)), (by first | rfl | (simp; done) | (simp [*]; done)), H', ⟨by have := HK1.out; omega⟩, ⟨by (with_reducible repeat (first | apply Kd.R_alloc | apply Kd.R_drewN | apply Kd.R_drew)); exact Kd.R_mono (Kd.R_far (p := ⟨gb230, 2, none⟩) (Kd.R_far (p := ⟨gb230, 1, none⟩) (Kd.R_far (p := ⟨gb230, 0, none⟩) (Kd.R_types HO_5.out BK230.out (by decide)) (fun _ hk => hk.2) (.int .i64 ((rd_T43 l0_1 x14_1).f0))) (fun _ hk => hk.2) (.int .i64 ((rd_T43 l0_1 x14_1).f1))) (fun _ hk => hk.2) (.slice A229_2 ((rd_T43 l0_1 x14_1).f2).length c229_2)) (fun _ hk => trivial)⟩, ⟨by (iterate 3 (with_reducible repeat (first | refine blk_drewN ?_ _ | refine blk_drew ?_ | refine blk_alloc ?_ _)); refine blk_far ?_ NB227_230.out _); exact bg BK227.out⟩, ⟨by (iterate 3 (with_reducible repeat (first | refine blk_drewN ?_ _ | refine blk_drew ?_ | refine blk_alloc ?_ _)); refine blk_far ?_ NB228_230.out _); exact bg BK228.out⟩, ⟨bs HB.out⟩⟩
      ·
       rw [if_neg c15] at H
       exact absurd H (by simp)
     ·
      rw [if_neg c14] at H
      exact absurd H (by simp)
    ·
     rw [if_neg c13] at H
     have c13b0 : decide (x14_1 < (l0_1.length : Int)) = false := decide_eq_false c13
     clear c13
     replace H := Option.bind_eq_some_iff.mp H
     obtain ⟨t237, A470, H⟩ := H
     replace H : (some t237) = some r := H
     have A47 := Aside0.mk A470
     clear A470
     obtain rfl := Option.some.inj H
     obtain ⟨hsl, hse⟩ := sortI_out A47.out
     go_wp2_with (first | (go_at_call 31; refine (sort_ints w.heap.size (fun _ => True) w _ _ _ (rq HO_5.out) (bs HB.out) (below_size (bs HB.out)) hsl).mono ?_; rintro e w49 ⟨rfl, ho0, hb⟩; rw [hse] at ho0; have HO239 := Aside0.mk ho0; clear HB HO_5; have HB := Aside0.mk hb; clear ho0 hb))
     go_ret
     exact ⟨_, by first | rfl | (simp [errW_none, errW_some] <;> rfl) | (simp [*, errW_none, errW_some] <;> rfl), by (with_reducible repeat (first | apply Kd.R_alloc | apply Kd.R_drewN | apply Kd.R_drew)); exact Kd.R_mono HO239.out (fun _ hk => trivial), bs HB.out⟩

end Go.Proofs.Yteifekndhgkgcaa.H
