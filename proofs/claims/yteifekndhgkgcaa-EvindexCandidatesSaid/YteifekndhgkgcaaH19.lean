-- Printed by wip/hprint.py (this project's own driver of the kit's print) out of the translation; Lean checks it.
import Derived.Test.YteifekndhgkgcaaH0
import Derived.Test.YteifekndhgkgcaaH2
import Derived.Test.YteifekndhgkgcaaHBld
import Derived.Test.YteifekndhgkgcaaHCand
namespace Go.Proofs.Yteifekndhgkgcaa.H
open Go.RowKit Go.Proofs.YteifekndhgkgcaaW.PrintWords Go.Proofs.YteifekndhgkgcaaW.PrintLast Go.Proofs.YteifekndhgkgcaaW.PrintMore
attribute [local go_sem] max2_int min2_int max_two min_two max_three min_three max_four min_four   -- for this text's walks alone
set_option linter.unusedVariables false
set_option linter.unusedSimpArgs false

/-! ### signalbenchlaw46_EvindexCandidates: function 7 -/
mutual
def signalbenchlaw46_EvindexCandidates.l0 : Nat → List (S47) → List Int → Int → Int → Int → Int → Int → Int → Int → Option (Bool)
 | 0, _, _, _, _, _, _, _, _, _ => none
 | k + 1, x0, x5, x6, x7, x274000, x274001, x274002, x274003, x274004 => if x7 < (x0.length : Int) then (if x274000 = (-1) then (signalbenchlaw46_EvindexCandidates.j1 k x0 x5 x6 x7 false x274000 x274001 x274002 x274003 x274004) else (if 0 ≤ x7 then (if ((rd_T47 x0 x7).f0) = x274000 then (if x274001 = 0 then (signalbenchlaw46_EvindexCandidates.j1 k x0 x5 x6 x7 true x274000 x274001 x274002 x274003 x274004) else (signalbenchlaw46_EvindexCandidates.j1 k x0 x5 x6 x7 (((rd_T47 x0 x7).f2.f0) == x274001) x274000 x274001 x274002 x274003 x274004)) else (signalbenchlaw46_EvindexCandidates.j1 k x0 x5 x6 x7 false x274000 x274001 x274002 x274003 x274004)) else (none))) else (if x6 = (x5.length : Int) then ((signalbenchlaw46_awake.f k).bind fun t282 => (some t282)) else (some false))
def signalbenchlaw46_EvindexCandidates.j1 : Nat → List (S47) → List Int → Int → Int → Bool → Int → Int → Int → Int → Int → Option (Bool)
 | 0, _, _, _, _, _, _, _, _, _, _ => none
 | k + 1, x0, x5, x6, x7, x50, x274000, x274001, x274002, x274003, x274004 => if x50 = true then (if x6 ≥ (x5.length : Int) then (some false) else (if 0 ≤ x6 then (if x6 < (x5.length : Int) then (if (rd x5 x6) = x7 then (signalbenchlaw46_EvindexCandidates.l0 k x0 x5 (wrap64 (x6 + 1)) (wrap64 (x7 + 1)) x274000 x274001 x274002 x274003 x274004) else (some false)) else (none)) else (none))) else (signalbenchlaw46_EvindexCandidates.l0 k x0 x5 x6 (wrap64 (x7 + 1)) x274000 x274001 x274002 x274003 x274004)
end
def signalbenchlaw46_EvindexCandidates.f (k : Nat) (l0 : List (S47)) (a1_0 : Int) (a1_1 : Int) (a1_2 : Int) (a1_3 : Int) (a1_4 : Int) : Option (Bool) := if (l0.length : Int) > 60 then ((signalbenchlaw46_awake.f k).bind fun t274 => (some t274)) else ((evindex_Build.f l0).bind fun bt275 => ((evindex_Candidates.f k bt275.1 bt275.2 a1_0 a1_1 a1_2 a1_3 a1_4).bind fun t279 => (signalbenchlaw46_EvindexCandidates.l0 k l0 t279 0 0 a1_0 a1_1 a1_2 a1_3 a1_4)))
def signalbenchlaw46_EvindexCandidates.T8 : Bool × List (List Nat × List Nat) := (true, [([], []), ([0], [0]), ([1], [1]), ([2], [2]), ([3], [3]), ([3], [3]), ([4, 5, 3], [3, 4, 5]), ([6, 3], [3, 6]), ([7, 3], [3, 7]), ([3], [3]), ([9, 3], [3, 9]), ([8, 10, 3], [3, 8, 10]), ([3, 11], [3, 11]), ([12, 3], [12]), ([13], [13]), ([14, 13], [13, 14]), ([15, 13], [13, 15]), ([16, 13, 13], [13, 16]), ([17], [17]), ([17], [17]), ([18, 19, 17], [17, 18, 19]), ([20, 17], [17, 20]), ([21, 17], [17, 21]), ([22, 17], [17, 22]), ([17], [17]), ([24, 17], [17, 24]), ([23, 25, 17], [17, 23, 25]), ([17, 26, 13], [13, 17, 26]), ([13, 27], [13, 27])])
def signalbenchlaw46_EvindexCandidates.B8 : List Nat := [0, 1, 3, 7, 15, 15, 63, 127, 255, 15, 527, 2047, 4095, 8191, 16383, 32767, 65535, 131071, 262143, 262143, 1048575, 2097151, 4194303, 8388607, 262143, 17039359, 67108863, 134217727, 268435455]
theorem signalbenchlaw46_EvindexCandidates.tab8 : rtab .any (opsOf Try.f7 8) = signalbenchlaw46_EvindexCandidates.T8 := by kernel_rfl
theorem signalbenchlaw46_EvindexCandidates.bits8 : waitsOk signalbenchlaw46_EvindexCandidates.T8.2 signalbenchlaw46_EvindexCandidates.B8 = true := by kernel_rfl
set_option maxHeartbeats 8000000 in
set_option maxRecDepth 100000 in
theorem signalbenchlaw46_EvindexCandidates.calls (k : Nat) (A0 : Option Addr) (c0 : Nat) (l0 : List (S47)) (a1_0 : Int) (a1_1 : Int) (a1_2 : Int) (a1_3 : Int) (a1_4 : Int) (r : Bool) (w : World) (hr0 : Kd.C k47 w A0 l0.length l0) (hc0 : l0.length ≤ c0) (h : signalbenchlaw46_EvindexCandidates.f k l0 a1_0 a1_1 a1_2 a1_3 a1_4 = some r) :
  Calls Try.prog 7 #[.slice A0 l0.length c0, .agg #[.int .i64 a1_0, .int .i64 a1_1, .int .i64 a1_2, .int .i64 a1_3, .int .i64 a1_4]] w fun e w' => e = .returned (.bool r) ∧ Below w.heap.size w w' := by
 have hu34 := Try.underlying34
 have HR0 := Aside0.mk hr0
 have HC0 := Aside0.mk hc0
 clear hr0 hc0
 have HB := Aside0.mk (Below.refl w.heap.size w)
 have H : (if (l0.length : Int) > 60 then ((signalbenchlaw46_awake.f k).bind fun t274 => (some t274)) else ((evindex_Build.f l0).bind fun bt275 => ((evindex_Candidates.f k bt275.1 bt275.2 a1_0 a1_1 a1_2 a1_3 a1_4).bind fun t279 => (signalbenchlaw46_EvindexCandidates.l0 k l0 t279 0 0 a1_0 a1_1 a1_2 a1_3 a1_4)))) = some r := h
 clear h
 by_cases c3 : (l0.length : Int) > 60
 ·
  rw [if_pos c3] at H
  have c3b0 : decide (60 < (l0.length : Int)) = true := decide_eq_true c3
  have c3b1 : decide (60 < l0.length) = true := decide_eq_true (by omega)
  clear c3
  replace H := Option.bind_eq_some_iff.mp H
  obtain ⟨t274, A40, H⟩ := H
  replace H : (some t274) = some r := H
  have A4 := Aside0.mk A40
  clear A40
  obtain rfl := Option.some.inj H
  go_enter Try.func7, Try.ntmps7
  go_wp2_with (first | ((with_reducible refine gate_dst (N := 3) rfl ?_); refine box_event ?hg (N := 3) ?hd (cs := #[.int .i64 a1_0, .int .i64 a1_1, .int .i64 a1_2, .int .i64 a1_3, .int .i64 a1_4]) (t := 34) ?hr ?_; (case hd => rfl); (case hg => rfl); (case hr => first | (go_simp; done) | (go_simp; rfl)); intro gb273 hg w5 hbox hb; have n0_ := Aside0.mk (below_step (bs HB.out) hb); have n1_ := Aside0.mk (hbox); have n2_ := Aside0.mk ((by rw [hg]; exact (below_size (bs HB.out)) : w.heap.size ≤ gb273)); have n3_ := n2_; clear HB; have HB := n0_; have BK273 := n1_; have GW273 := n2_; have GE273 := n3_; clear n0_ n1_ n2_ n3_; clear hb hbox hg) | ((with_reducible refine gate_callee (f := 9) rfl ?_); refine goesL_ (some 11) rfl rfl Try.func9 (by kernel_rfl) rfl #[] rfl (by (try simp only [List.map_toArray, List.map_cons, List.map_nil]); first | done | rfl | (simp only [List.length_drop, List.length_take]; rfl)) ?_; (with_reducible refine (signalbenchlaw46_awake.calls k  t274 _ A4.out).mono ?_); rintro e w6 ⟨rfl, hb⟩; refine ⟨_, rfl, ?_⟩; have n0_ := Aside0.mk (blk_below (bg BK273.out) hb); have n1_ := Aside0.mk (below_step (bs HB.out) hb); clear BK273; clear HB; have BK273 := n0_; have HB := n1_; clear n0_ n1_; (try clear hb); (try clear hb2); (try clear hk); (try clear hi)))
  go_ret
  exact ⟨by first | rfl | (simp [errW_none, errW_some] <;> rfl) | (simp [*, errW_none, errW_some] <;> rfl), bs HB.out⟩
 ·
  rw [if_neg c3] at H
  have c3b0 : decide (60 < (l0.length : Int)) = false := decide_eq_false c3
  have c3b1 : decide (60 < l0.length) = false := decide_eq_false (by omega)
  clear c3
  replace H := Option.bind_eq_some_iff.mp H
  obtain ⟨⟨t275, t276⟩, A70, H⟩ := H
  replace H : ((evindex_Candidates.f k t275 t276 a1_0 a1_1 a1_2 a1_3 a1_4).bind fun t279 => (signalbenchlaw46_EvindexCandidates.l0 k l0 t279 0 0 a1_0 a1_1 a1_2 a1_3 a1_4)) = some r := H
  have A7 := Aside0.mk A70
  clear A70
  replace H := Option.bind_eq_some_iff.mp H
  obtain ⟨t279, A80, H⟩ := H
  replace H : (signalbenchlaw46_EvindexCandidates.l0 k l0 t279 0 0 a1_0 a1_1 a1_2 a1_3 a1_4) = some r := H
  have A8 := Aside0.mk A80
  clear A80
  have H' := Aside0.mk H
  clear H
  go_enter Try.func7, Try.ntmps7
  try go_wp2_with (first | ((with_reducible refine gate_dst (N := 3) rfl ?_); refine box_event ?hg (N := 3) ?hd (cs := #[.int .i64 a1_0, .int .i64 a1_1, .int .i64 a1_2, .int .i64 a1_3, .int .i64 a1_4]) (t := 34) ?hr ?_; (case hd => rfl); (case hg => rfl); (case hr => first | (go_simp; done) | (go_simp; rfl)); intro gb273 hg w9 hbox hb; have n0_ := Aside0.mk (below_step (bs HB.out) hb); have n1_ := Aside0.mk (hbox); have n2_ := Aside0.mk ((by rw [hg]; exact (below_size (bs HB.out)) : w.heap.size ≤ gb273)); have n3_ := n2_; clear HB; have HB := n0_; have BK273 := n1_; have GW273 := n2_; have GE273 := n3_; clear n0_ n1_ n2_ n3_; clear hb hbox hg))
  have n0_ := Aside0.mk (blk_drew BK273.out)
  have n1_ := Aside0.mk (below_drew1 HB.out)
  clear BK273
  clear HB
  have BK273 := n0_
  have HB := n1_
  clear n0_ n1_
  refine start_ (n := 5) (S := fun w' => w'.cell? ⟨gb273, 0, none⟩ = some (.int .i64 a1_0) ∧ w'.cell? ⟨gb273, 1, none⟩ = some (.int .i64 a1_1) ∧ w'.cell? ⟨gb273, 2, none⟩ = some (.int .i64 a1_2) ∧ w'.cell? ⟨gb273, 3, none⟩ = some (.int .i64 a1_3) ∧ w'.cell? ⟨gb273, 4, none⟩ = some (.int .i64 a1_4)) (ds := []) (bsq 0 5) (by kernel_rfl) rfl rfl ⟨(blk_cell BK273.out 0).trans rfl, (blk_cell BK273.out 1).trans rfl, (blk_cell BK273.out 2).trans rfl, (blk_cell BK273.out 3).trans rfl, (blk_cell BK273.out 4).trans rfl⟩ (fun hHeld => ?_)
  generalize w9.drew = w10 at BK273 HB hHeld ⊢
  refine puk 0 12 (bsq 1 4) ?_
  refine tkk 2 14 (bls [1, 1, 1, 2]) hHeld ?_ (he := by rintro w' ⟨s0, s1, s2, s3, s4⟩; go_simp; with_reducible rfl)
  refine one_ (i := 1) (N := some 13) (bsq 3 2) rfl rfl (by kernel_rfl) (by decide) (fun K hK => ?_)
  refine goes_ Try.func11 (by kernel_rfl) rfl #[.slice A0 l0.length c0] (by rfl) rfl rfl (by (try simp only [List.map_toArray, List.map_cons, List.map_nil]); first | done | rfl | (simp only [List.length_drop, List.length_take]; rfl)) ?_
  with_reducible refine (evindex_Build.calls _ _ l0 t275 t276 _ ?side1 ?side2 A7.out).mono ?_
  (case side1 => repeat (first | exact (Kd.C_below HR0.out HB.out) | (with_reducible refine Kd.C_alloc ?_ _) | (with_reducible refine Kd.C_drewN ?_ _) | (with_reducible refine Kd.C_drew ?_)))
  (case side2 => exact HC0.out)
  rintro e w11 ⟨v277, rfl, ho0, hb⟩
  refine ⟨_, rfl, ?_⟩
  have n0_ := Aside0.mk (Kd.S_lower ho0 (below_size (bs HB.out)))
  have n1_ := Aside0.mk (blk_below (bg BK273.out) hb)
  have n2_ := Aside0.mk (below_step (bs HB.out) hb)
  clear BK273
  clear HB
  have HO278 := n0_
  have BK273 := n1_
  have HB := n2_
  clear n0_ n1_ n2_
  (try clear hb)
  (try clear hb2)
  (try clear hk)
  (try clear hi)
  (try clear ho0)
  obtain ⟨Ao12, co12, eo12⟩ := Kd.S_slice HO278.out
  (first | subst eo12 | (injection eo12 with f1_ f2_ f3_; have f4_ := f1_.symm; have f5_ := f3_.symm; clear f1_ f2_ f3_; subst f4_; subst f5_))
  refine hK.out _ _ ⟨(blk_cell BK273.out 0).trans rfl, (blk_cell BK273.out 1).trans rfl, (blk_cell BK273.out 2).trans rfl, (blk_cell BK273.out 3).trans rfl, (blk_cell BK273.out 4).trans rfl⟩ (fun hHeld => ?_)
  clear hK K
  refine norm_ (a' := ?_) ?_ ?_
  rotate_left
  ·
   show Act.put _ (some 13) _ = _
   simp only [Act.put, List.setIfInBounds_toArray, List.set_cons_zero, List.set_cons_succ, i64_w, i32_w]
   rfl
  refine one_ (i := 3) (N := some 15) (bsq 4 1) rfl rfl (by kernel_rfl) (by decide) (fun K hK => ?_)
  refine goes_ Try.func21 (by kernel_rfl) rfl #[.agg #[.int .i64 t275, .slice Ao12 t276.length co12], .agg #[.int .i64 a1_0, .int .i64 a1_1, .int .i64 a1_2, .int .i64 a1_3, .int .i64 a1_4]] (by rfl) rfl rfl (by (try simp only [List.map_toArray, List.map_cons, List.map_nil]); first | done | rfl | (simp only [List.length_drop, List.length_take]; rfl)) ?_
  with_reducible refine (evindex_Candidates.calls k t275 _ _ t276 a1_0 a1_1 a1_2 a1_3 a1_4 t279 _ ?side1 ?side2 A8.out).mono ?_
  (case side1 => repeat (first | exact (Kd.S_reads' HO278.out).2.2 | (with_reducible refine Kd.C_alloc ?_ _) | (with_reducible refine Kd.C_drewN ?_ _) | (with_reducible refine Kd.C_drew ?_)))
  (case side2 => exact (Kd.S_reads' HO278.out).2.1)
  rintro e w13 ⟨v280, rfl, ho0, hb⟩
  refine ⟨_, rfl, ?_⟩
  have n0_ := Aside0.mk (Kd.S_elder' (by (with_reducible repeat (first | apply Kd.S_alloc | apply Kd.S_drewN | apply Kd.S_drew)); exact HO278.out) (Kd.R_base ho0) hb)
  have n1_ := Aside0.mk (Kd.R_lower ho0 (below_size (bs HB.out)))
  have n2_ := Aside0.mk (blk_below (bg BK273.out) hb)
  have n3_ := Aside0.mk (below_step (bs HB.out) hb)
  clear HO278
  clear BK273
  clear HB
  have HO278 := n0_
  have HO281 := n1_
  have BK273 := n2_
  have HB := n3_
  clear n0_ n1_ n2_ n3_
  (try clear hb)
  (try clear hb2)
  (try clear hk)
  (try clear hi)
  (try clear ho0)
  refine hK.out _ _ ⟨(blk_cell BK273.out 0).trans rfl, (blk_cell BK273.out 1).trans rfl, (blk_cell BK273.out 2).trans rfl, (blk_cell BK273.out 3).trans rfl, (blk_cell BK273.out 4).trans rfl⟩ (fun hHeld => ?_)
  clear hK K
  refine norm_ (a' := ?_) ?_ ?_
  rotate_left
  ·
   show Act.put _ (some 15) _ = _
   simp only [Act.put, List.setIfInBounds_toArray, List.set_cons_zero, List.set_cons_succ, i64_w, i32_w]
   rfl
  refine puk 4 5 (bsq 5 0) ?_
  refine done_ (by kernel_rfl) ?_
  try go_wp2
  go_loopg [6, 7] k (fun kq v6 v7 w' => ∃ (x6_1 : Int) (x7_1 : Int), v6 = .int .i64 x6_1 ∧ v7 = .int .i64 x7_1 ∧ Aside0 (signalbenchlaw46_EvindexCandidates.l0 kq l0 t279 x6_1 x7_1 a1_0 a1_1 a1_2 a1_3 a1_4 = some r) ∧ Aside0 (kq ≤ k) ∧ Aside0 (Kd.R (Kd.int .i64) 3 w' w.heap.size (fun _ => True) v280 t279) ∧ Aside0 (w'.heap[gb273]? = some (.cells #[.int .i64 a1_0, .int .i64 a1_1, .int .i64 a1_2, .int .i64 a1_3, .int .i64 a1_4] 34 (0, 0))) ∧ Aside0 (Below w.heap.size w w'))
  case atStart => exact ⟨(0), (0), (by first | rfl | (simp; done) | (simp [*]; done)), (by first | rfl | (simp; done) | (simp [*]; done)), H', ⟨Nat.le_refl _⟩, ⟨by (with_reducible repeat (first | apply Kd.R_alloc | apply Kd.R_drewN | apply Kd.R_drew)); exact HO281.out⟩, ⟨bg BK273.out⟩, ⟨bs HB.out⟩⟩
  case round =>
   clear H'
   try clear c1
   try clear c2
   try clear p2
   try clear c3
   try clear c3b0
   try clear c3b1
   try clear c7
   try clear c9
   try clear c11
   obtain ⟨x6_1, x7_1, rfl, rfl, HA, HK1, HO_5, BK273, HB⟩ := hrel
   cases gk with
   | zero => exact absurd HA.out (by simp [signalbenchlaw46_EvindexCandidates.l0])
   | succ k1 =>
    have H := HA.out
    clear HA
    simp only [signalbenchlaw46_EvindexCandidates.l0] at H
    by_cases c14 : x7_1 < (l0.length : Int)
    ·
     rw [if_pos c14] at H
     have c14b0 : decide (x7_1 < (l0.length : Int)) = true := decide_eq_true c14
     clear c14
     have HC15 := Aside0.mk H
     clear H
     go_upto_region 8 with (fail)
     go_cut [50] (fun v50 wc => ∃ (kq : Nat) (x50_14 : Bool), v50 = .bool x50_14 ∧ Aside0 (signalbenchlaw46_EvindexCandidates.j1 kq l0 t279 x6_1 x7_1 x50_14 a1_0 a1_1 a1_2 a1_3 a1_4 = some r) ∧ Aside0 (kq ≤ k1) ∧ Aside0 (Kd.R (Kd.int .i64) 3 wc w.heap.size (fun _ => True) v280 t279) ∧ Aside0 (wc.heap[gb273]? = some (.cells #[.int .i64 a1_0, .int .i64 a1_1, .int .i64 a1_2, .int .i64 a1_3, .int .i64 a1_4] 34 (0, 0))) ∧ Aside0 (Below w.heap.size w wc))
     case first =>
      have H := HC15.out
      clear HC15
      by_cases c16 : a1_0 = (-1)
      ·
       rw [if_pos c16] at H
       have c16b0 : (a1_0 == (-1)) = true := beq_iff_eq.mpr c16
       have c16b1 : (a1_0 != (-1)) = false := bne_eq_false_iff_eq.mpr c16
       clear c16
       (first | rw [c16b0] | (simp only [i64_w, i32_w]; rw [c16b0]) | skip)
       have H' := Aside0.mk H
       clear H
       try go_wp2
       have n0_ := Aside0.mk (Kd.R_drew HO_5.out)
       have n1_ := Aside0.mk (blk_drew BK273.out)
       have n2_ := Aside0.mk (below_drew1 HB.out)
       clear HO_5
       clear BK273
       clear HB
       have HO_5 := n0_
       have BK273 := n1_
       have HB := n2_
       clear n0_ n1_ n2_
       refine start_ (n := 29) (S := fun w' => w'.cell? ⟨gb273, 0, none⟩ = some (.int .i64 a1_0) ∧ w'.cell? ⟨gb273, 1, none⟩ = some (.int .i64 a1_1) ∧ w'.cell? ⟨gb273, 2, none⟩ = some (.int .i64 a1_2) ∧ w'.cell? ⟨gb273, 3, none⟩ = some (.int .i64 a1_3) ∧ w'.cell? ⟨gb273, 4, none⟩ = some (.int .i64 a1_4)) (ds := []) (bsq 0 29) (by kernel_rfl) rfl rfl ⟨(blk_cell BK273.out 0).trans rfl, (blk_cell BK273.out 1).trans rfl, (blk_cell BK273.out 2).trans rfl, (blk_cell BK273.out 3).trans rfl, (blk_cell BK273.out 4).trans rfl⟩ (fun hHeld => ?_); refine with_tabW signalbenchlaw46_EvindexCandidates.tab8 signalbenchlaw46_EvindexCandidates.bits8 (fun HT_ HW_ => ?_)
       generalize wr.drew = w17 at HO_5 BK273 HB hHeld ⊢
       refine pu 0 22 (bsq 1 28) ?_
       refine tk 1 23 (bsq 2 27) hHeld ?_ (he := by rintro w' ⟨s0, s1, s2, s3, s4⟩; go_simp; with_reducible rfl)
       refine pu 2 24 (bsq 3 26) ?_
       refine pu 3 25 (bsq 4 25) ?_
       refine un 4 26 (bsq 5 24) ?_
       refine un 5 27 (bsq 6 23) ?_
       refine un 6 28 (bsq 7 22) ?_
       refine un 7 29 (bsq 8 21) ?_
       refine un 8 30 (bsq 9 20) ?_
       refine un 9 31 (bsq 10 19) ?_
       refine un 10 32 (bsq 11 18) ?_
       refine un 11 33 (bsq 12 17) ?_
       refine pu 12 34 (bsq 13 16) ?_
       refine pu 13 35 (bsq 14 15) ?_
       refine un 14 36 (bsq 15 14) ?_
       refine un 15 37 (bsq 16 13) ?_
       refine un 16 38 (bsq 17 12) ?_
       refine un 17 39 (bsq 18 11) ?_
       refine un 18 40 (bsq 19 10) ?_
       refine un 19 41 (bsq 20 9) ?_
       refine un 20 42 (bsq 21 8) ?_
       refine un 21 43 (bsq 22 7) ?_
       refine un 22 44 (bsq 23 6) ?_
       refine un 23 45 (bsq 24 5) ?_
       refine un 24 46 (bsq 25 4) ?_
       refine un 25 47 (bsq 26 3) ?_
       refine un 26 48 (bsq 27 2) ?_
       refine un 27 49 (bsq 28 1) ?_
       refine pu 28 50 (bsq 29 0) ?_
       refine done_ (done_of HT_.out (by kernel_rfl)) ?_
       try go_wp2
       go_meet
       case rel => exact ⟨_, (false), (by first | rfl | (simp; done) | (simp [*]; done)), H', ⟨by have := HK1.out; first | omega | exact Nat.le_refl _⟩, ⟨by (with_reducible repeat (first | apply Kd.R_alloc | apply Kd.R_drewN | apply Kd.R_drew)); exact HO_5.out⟩, ⟨bg BK273.out⟩, ⟨bs HB.out⟩⟩
      ·
       rw [if_neg c16] at H
       have c16b0 : (a1_0 == (-1)) = false := beq_eq_false_iff_ne.mpr c16
       have c16b1 : (a1_0 != (-1)) = true := bne_iff_ne.mpr c16
       (first | rw [c16b0] | (simp only [i64_w, i32_w]; rw [c16b0]) | skip)
       by_cases c18 : 0 ≤ x7_1
       ·
        rw [if_pos c18] at H
        have c18b0 : decide (0 ≤ x7_1) = true := decide_eq_true c18
        clear c18
        by_cases c19 : ((rd_T47 l0 x7_1).f0) = a1_0
        ·
         rw [if_pos c19] at H
         have c19b0 : (((rd_T47 l0 x7_1).f0) == a1_0) = true := beq_iff_eq.mpr c19
         have c19b1 : (((rd_T47 l0 x7_1).f0) != a1_0) = false := bne_eq_false_iff_eq.mpr c19
         clear c19
         by_cases c20 : a1_1 = 0
         ·
          rw [if_pos c20] at H
          have c20b0 : (a1_1 == 0) = true := beq_iff_eq.mpr c20
          have c20b1 : (a1_1 != 0) = false := bne_eq_false_iff_eq.mpr c20
          clear c20
          have H' := Aside0.mk H
          clear H
          try go_wp2
          have n0_ := Aside0.mk (Kd.R_drew HO_5.out)
          have n1_ := Aside0.mk (blk_drew BK273.out)
          have n2_ := Aside0.mk (below_drew1 HB.out)
          clear HO_5
          clear BK273
          clear HB
          have HO_5 := n0_
          have BK273 := n1_
          have HB := n2_
          clear n0_ n1_ n2_
          have p283 : 0 ≤ (x7_1 : Int) := of_decide_eq_true (by first | (with_reducible assumption) | assumption)
          have q283 : x7_1 < (l0.length : Int) := of_decide_eq_true (by first | (with_reducible assumption) | assumption)
          obtain ⟨ad283, e283, hx283_0, hx283_1, hx283_2, hx283_3, hx283_4, hx283_5, hx283_6, hx283_7, hx283_8⟩ := at_T47 HR0.out x7_1 p283 q283
          have hw283_8 := hx283_8
          have hw283_7 := hx283_7
          have hw283_6 := hx283_6
          have hw283_5 := hx283_5
          have hw283_4 := hx283_4
          have hw283_3 := hx283_3
          have hw283_2 := hx283_2
          have hw283_1 := hx283_1
          have hw283_0 := hx283_0
          cases e283
          replace hx283_0 := pw_cell_below HB.out hx283_0
          replace hx283_1 := pw_cell_below HB.out hx283_1
          replace hx283_2 := pw_cell_below HB.out hx283_2
          replace hx283_3 := pw_cell_below HB.out hx283_3
          replace hx283_4 := pw_cell_below HB.out hx283_4
          replace hx283_5 := pw_cell_below HB.out hx283_5
          replace hx283_6 := pw_cell_below HB.out hx283_6
          replace hx283_7 := pw_cell_below HB.out hx283_7
          replace hx283_8 := pw_cell_below HB.out hx283_8
          replace p283 := eq_true p283
          replace q283 := eq_true q283
          refine start_ (n := 29) (S := fun w' => w'.cell? ⟨gb273, 0, none⟩ = some (.int .i64 a1_0) ∧ w'.cell? ⟨gb273, 1, none⟩ = some (.int .i64 a1_1) ∧ w'.cell? ⟨gb273, 2, none⟩ = some (.int .i64 a1_2) ∧ w'.cell? ⟨gb273, 3, none⟩ = some (.int .i64 a1_3) ∧ w'.cell? ⟨gb273, 4, none⟩ = some (.int .i64 a1_4) ∧ w'.cell? (ad283.add ((x7_1).toNat * 9)) = some (.int .i64 ((rd_T47 l0 x7_1).f0)) ∧ w'.cell? ⟨(ad283.add ((x7_1).toNat * 9)).block, (ad283.add ((x7_1).toNat * 9)).off + 1, none⟩ = some (.int .i64 ((rd_T47 l0 x7_1).f1)) ∧ w'.cell? ⟨(ad283.add ((x7_1).toNat * 9)).block, (ad283.add ((x7_1).toNat * 9)).off + 2, none⟩ = some (.int .i64 ((rd_T47 l0 x7_1).f2.f0)) ∧ w'.cell? ⟨(ad283.add ((x7_1).toNat * 9)).block, (ad283.add ((x7_1).toNat * 9)).off + 3, none⟩ = some (.int .i64 ((rd_T47 l0 x7_1).f2.f1)) ∧ w'.cell? ⟨(ad283.add ((x7_1).toNat * 9)).block, (ad283.add ((x7_1).toNat * 9)).off + 4, none⟩ = some (.int .i64 ((rd_T47 l0 x7_1).f2.f2)) ∧ w'.cell? ⟨(ad283.add ((x7_1).toNat * 9)).block, (ad283.add ((x7_1).toNat * 9)).off + 5, none⟩ = some (.int .i64 ((rd_T47 l0 x7_1).f2.f3)) ∧ w'.cell? ⟨(ad283.add ((x7_1).toNat * 9)).block, (ad283.add ((x7_1).toNat * 9)).off + 6, none⟩ = some (.int .i64 ((rd_T47 l0 x7_1).f2.f4)) ∧ w'.cell? ⟨(ad283.add ((x7_1).toNat * 9)).block, (ad283.add ((x7_1).toNat * 9)).off + 7, none⟩ = some (.string ((rd_T47 l0 x7_1).f2.f5)) ∧ w'.cell? ⟨(ad283.add ((x7_1).toNat * 9)).block, (ad283.add ((x7_1).toNat * 9)).off + 8, none⟩ = some (.int .i64 ((rd_T47 l0 x7_1).f2.f6))) (ds := []) (bsq 0 29) (by kernel_rfl) rfl rfl ⟨(blk_cell BK273.out 0).trans rfl, (blk_cell BK273.out 1).trans rfl, (blk_cell BK273.out 2).trans rfl, (blk_cell BK273.out 3).trans rfl, (blk_cell BK273.out 4).trans rfl, ((HB.out.cell (World.block_lt_of_cell? w _ hw283_0)).trans hw283_0), ((HB.out.cell (World.block_lt_of_cell? w _ hw283_1)).trans hw283_1), ((HB.out.cell (World.block_lt_of_cell? w _ hw283_2)).trans hw283_2), ((HB.out.cell (World.block_lt_of_cell? w _ hw283_3)).trans hw283_3), ((HB.out.cell (World.block_lt_of_cell? w _ hw283_4)).trans hw283_4), ((HB.out.cell (World.block_lt_of_cell? w _ hw283_5)).trans hw283_5), ((HB.out.cell (World.block_lt_of_cell? w _ hw283_6)).trans hw283_6), ((HB.out.cell (World.block_lt_of_cell? w _ hw283_7)).trans hw283_7), ((HB.out.cell (World.block_lt_of_cell? w _ hw283_8)).trans hw283_8)⟩ (fun hHeld => ?_); refine with_tabW signalbenchlaw46_EvindexCandidates.tab8 signalbenchlaw46_EvindexCandidates.bits8 (fun HT_ HW_ => ?_)
          generalize wr.drew = w21 at HO_5 BK273 HB hx283_0 hx283_1 hx283_2 hx283_3 hx283_4 hx283_5 hx283_6 hx283_7 hx283_8 hHeld ⊢
          refine pu 0 22 (bsq 1 28) ?_
          refine tk 1 23 (bsq 2 27) hHeld ?_ (he := by rintro w' ⟨s0, s1, s2, s3, s4, s5, s6, s7, s8, s9, s10, s11, s12, s13⟩; go_simp; with_reducible rfl)
          refine pu 2 24 (bsq 3 26) ?_
          refine pu 3 25 (bsq 4 25) ?_
          refine pu 4 26 (bsq 5 24) ?_
          refine pu 5 27 (bsq 6 23) ?_
          refine pu 6 28 (bsq 7 22) ?_
          refine pu 7 29 (bsq 8 21) ?_
          refine pu 9 31 (bls [8, 1, 1, 19]) ?_
          refine tk 8 30 (bsq 10 19) hHeld ?_ (he := by rintro w' ⟨s0, s1, s2, s3, s4, s5, s6, s7, s8, s9, s10, s11, s12, s13⟩; go_simp; with_reducible rfl)
          refine tk 10 32 (bsq 11 18) hHeld ?_ (he := by rintro w' ⟨s0, s1, s2, s3, s4, s5, s6, s7, s8, s9, s10, s11, s12, s13⟩; go_simp; with_reducible rfl)
          refine pu 11 33 (bsq 12 17) ?_
          refine pu 12 34 (bsq 13 16) ?_
          refine pu 13 35 (bsq 14 15) ?_
          refine pu 14 36 (bsq 15 14) ?_
          refine tk 15 37 (bsq 16 13) hHeld ?_ (he := by rintro w' ⟨s0, s1, s2, s3, s4, s5, s6, s7, s8, s9, s10, s11, s12, s13⟩; go_simp; with_reducible rfl)
          refine pu 16 38 (bsq 17 12) ?_
          refine pu 17 39 (bsq 18 11) ?_
          refine un 18 40 (bsq 19 10) ?_
          refine un 19 41 (bsq 20 9) ?_
          refine un 20 42 (bsq 21 8) ?_
          refine un 21 43 (bsq 22 7) ?_
          refine un 22 44 (bsq 23 6) ?_
          refine un 23 45 (bsq 24 5) ?_
          refine un 24 46 (bsq 25 4) ?_
          refine un 25 47 (bsq 26 3) ?_
          refine un 26 48 (bsq 27 2) ?_
          refine pu 27 49 (bsq 28 1) ?_
          refine pu 28 50 (bsq 29 0) ?_
          refine done_ (done_of HT_.out (by kernel_rfl)) ?_
          try go_wp2
          go_meet
          case rel => exact ⟨_, (true), (by first | rfl | (simp; done) | (simp [*]; done)), H', ⟨by have := HK1.out; first | omega | exact Nat.le_refl _⟩, ⟨by (with_reducible repeat (first | apply Kd.R_alloc | apply Kd.R_drewN | apply Kd.R_drew)); exact HO_5.out⟩, ⟨bg BK273.out⟩, ⟨bs HB.out⟩⟩
         ·
          rw [if_neg c20] at H
          have c20b0 : (a1_1 == 0) = false := beq_eq_false_iff_ne.mpr c20
          have c20b1 : (a1_1 != 0) = true := bne_iff_ne.mpr c20
          have H' := Aside0.mk H
          clear H
          try go_wp2
          have n0_ := Aside0.mk (Kd.R_drew HO_5.out)
          have n1_ := Aside0.mk (blk_drew BK273.out)
          have n2_ := Aside0.mk (below_drew1 HB.out)
          clear HO_5
          clear BK273
          clear HB
          have HO_5 := n0_
          have BK273 := n1_
          have HB := n2_
          clear n0_ n1_ n2_
          have p283 : 0 ≤ (x7_1 : Int) := of_decide_eq_true (by first | (with_reducible assumption) | assumption)
          have q283 : x7_1 < (l0.length : Int) := of_decide_eq_true (by first | (with_reducible assumption) | assumption)
          obtain ⟨ad283, e283, hx283_0, hx283_1, hx283_2, hx283_3, hx283_4, hx283_5, hx283_6, hx283_7, hx283_8⟩ := at_T47 HR0.out x7_1 p283 q283
          have hw283_8 := hx283_8
          have hw283_7 := hx283_7
          have hw283_6 := hx283_6
          have hw283_5 := hx283_5
          have hw283_4 := hx283_4
          have hw283_3 := hx283_3
          have hw283_2 := hx283_2
          have hw283_1 := hx283_1
          have hw283_0 := hx283_0
          cases e283
          replace hx283_0 := pw_cell_below HB.out hx283_0
          replace hx283_1 := pw_cell_below HB.out hx283_1
          replace hx283_2 := pw_cell_below HB.out hx283_2
          replace hx283_3 := pw_cell_below HB.out hx283_3
          replace hx283_4 := pw_cell_below HB.out hx283_4
          replace hx283_5 := pw_cell_below HB.out hx283_5
          replace hx283_6 := pw_cell_below HB.out hx283_6
          replace hx283_7 := pw_cell_below HB.out hx283_7
          replace hx283_8 := pw_cell_below HB.out hx283_8
          replace p283 := eq_true p283
          replace q283 := eq_true q283
          have p284 : 0 ≤ (x7_1 : Int) := of_decide_eq_true (by first | (with_reducible assumption) | assumption)
          have q284 : x7_1 < (l0.length : Int) := of_decide_eq_true (by first | (with_reducible assumption) | assumption)
          obtain ⟨ad284, e284, hx284_0, hx284_1, hx284_2, hx284_3, hx284_4, hx284_5, hx284_6, hx284_7, hx284_8⟩ := at_T47 HR0.out x7_1 p284 q284
          have hw284_8 := hx284_8
          have hw284_7 := hx284_7
          have hw284_6 := hx284_6
          have hw284_5 := hx284_5
          have hw284_4 := hx284_4
          have hw284_3 := hx284_3
          have hw284_2 := hx284_2
          have hw284_1 := hx284_1
          have hw284_0 := hx284_0
          obtain rfl : ad283 = ad284 := (by injection e284)
          replace hx284_0 := pw_cell_below HB.out hx284_0
          replace hx284_1 := pw_cell_below HB.out hx284_1
          replace hx284_2 := pw_cell_below HB.out hx284_2
          replace hx284_3 := pw_cell_below HB.out hx284_3
          replace hx284_4 := pw_cell_below HB.out hx284_4
          replace hx284_5 := pw_cell_below HB.out hx284_5
          replace hx284_6 := pw_cell_below HB.out hx284_6
          replace hx284_7 := pw_cell_below HB.out hx284_7
          replace hx284_8 := pw_cell_below HB.out hx284_8
          replace p284 := eq_true p284
          replace q284 := eq_true q284
          refine start_ (n := 29) (S := fun w' => w'.cell? ⟨gb273, 0, none⟩ = some (.int .i64 a1_0) ∧ w'.cell? ⟨gb273, 1, none⟩ = some (.int .i64 a1_1) ∧ w'.cell? ⟨gb273, 2, none⟩ = some (.int .i64 a1_2) ∧ w'.cell? ⟨gb273, 3, none⟩ = some (.int .i64 a1_3) ∧ w'.cell? ⟨gb273, 4, none⟩ = some (.int .i64 a1_4) ∧ w'.cell? (ad283.add ((x7_1).toNat * 9)) = some (.int .i64 ((rd_T47 l0 x7_1).f0)) ∧ w'.cell? ⟨(ad283.add ((x7_1).toNat * 9)).block, (ad283.add ((x7_1).toNat * 9)).off + 1, none⟩ = some (.int .i64 ((rd_T47 l0 x7_1).f1)) ∧ w'.cell? ⟨(ad283.add ((x7_1).toNat * 9)).block, (ad283.add ((x7_1).toNat * 9)).off + 2, none⟩ = some (.int .i64 ((rd_T47 l0 x7_1).f2.f0)) ∧ w'.cell? ⟨(ad283.add ((x7_1).toNat * 9)).block, (ad283.add ((x7_1).toNat * 9)).off + 3, none⟩ = some (.int .i64 ((rd_T47 l0 x7_1).f2.f1)) ∧ w'.cell? ⟨(ad283.add ((x7_1).toNat * 9)).block, (ad283.add ((x7_1).toNat * 9)).off + 4, none⟩ = some (.int .i64 ((rd_T47 l0 x7_1).f2.f2)) ∧ w'.cell? ⟨(ad283.add ((x7_1).toNat * 9)).block, (ad283.add ((x7_1).toNat * 9)).off + 5, none⟩ = some (.int .i64 ((rd_T47 l0 x7_1).f2.f3)) ∧ w'.cell? ⟨(ad283.add ((x7_1).toNat * 9)).block, (ad283.add ((x7_1).toNat * 9)).off + 6, none⟩ = some (.int .i64 ((rd_T47 l0 x7_1).f2.f4)) ∧ w'.cell? ⟨(ad283.add ((x7_1).toNat * 9)).block, (ad283.add ((x7_1).toNat * 9)).off + 7, none⟩ = some (.string ((rd_T47 l0 x7_1).f2.f5)) ∧ w'.cell? ⟨(ad283.add ((x7_1).toNat * 9)).block, (ad283.add ((x7_1).toNat * 9)).off + 8, none⟩ = some (.int .i64 ((rd_T47 l0 x7_1).f2.f6)) ∧ w'.cell? (ad283.add ((x7_1).toNat * 9)) = some (.int .i64 ((rd_T47 l0 x7_1).f0)) ∧ w'.cell? ⟨(ad283.add ((x7_1).toNat * 9)).block, (ad283.add ((x7_1).toNat * 9)).off + 1, none⟩ = some (.int .i64 ((rd_T47 l0 x7_1).f1)) ∧ w'.cell? ⟨(ad283.add ((x7_1).toNat * 9)).block, (ad283.add ((x7_1).toNat * 9)).off + 2, none⟩ = some (.int .i64 ((rd_T47 l0 x7_1).f2.f0)) ∧ w'.cell? ⟨(ad283.add ((x7_1).toNat * 9)).block, (ad283.add ((x7_1).toNat * 9)).off + 3, none⟩ = some (.int .i64 ((rd_T47 l0 x7_1).f2.f1)) ∧ w'.cell? ⟨(ad283.add ((x7_1).toNat * 9)).block, (ad283.add ((x7_1).toNat * 9)).off + 4, none⟩ = some (.int .i64 ((rd_T47 l0 x7_1).f2.f2)) ∧ w'.cell? ⟨(ad283.add ((x7_1).toNat * 9)).block, (ad283.add ((x7_1).toNat * 9)).off + 5, none⟩ = some (.int .i64 ((rd_T47 l0 x7_1).f2.f3)) ∧ w'.cell? ⟨(ad283.add ((x7_1).toNat * 9)).block, (ad283.add ((x7_1).toNat * 9)).off + 6, none⟩ = some (.int .i64 ((rd_T47 l0 x7_1).f2.f4)) ∧ w'.cell? ⟨(ad283.add ((x7_1).toNat * 9)).block, (ad283.add ((x7_1).toNat * 9)).off + 7, none⟩ = some (.string ((rd_T47 l0 x7_1).f2.f5)) ∧ w'.cell? ⟨(ad283.add ((x7_1).toNat * 9)).block, (ad283.add ((x7_1).toNat * 9)).off + 8, none⟩ = some (.int .i64 ((rd_T47 l0 x7_1).f2.f6))) (ds := []) (bsq 0 29) (by kernel_rfl) rfl rfl ⟨(blk_cell BK273.out 0).trans rfl, (blk_cell BK273.out 1).trans rfl, (blk_cell BK273.out 2).trans rfl, (blk_cell BK273.out 3).trans rfl, (blk_cell BK273.out 4).trans rfl, ((HB.out.cell (World.block_lt_of_cell? w _ hw283_0)).trans hw283_0), ((HB.out.cell (World.block_lt_of_cell? w _ hw283_1)).trans hw283_1), ((HB.out.cell (World.block_lt_of_cell? w _ hw283_2)).trans hw283_2), ((HB.out.cell (World.block_lt_of_cell? w _ hw283_3)).trans hw283_3), ((HB.out.cell (World.block_lt_of_cell? w _ hw283_4)).trans hw283_4), ((HB.out.cell (World.block_lt_of_cell? w _ hw283_5)).trans hw283_5), ((HB.out.cell (World.block_lt_of_cell? w _ hw283_6)).trans hw283_6), ((HB.out.cell (World.block_lt_of_cell? w _ hw283_7)).trans hw283_7), ((HB.out.cell (World.block_lt_of_cell? w _ hw283_8)).trans hw283_8), ((HB.out.cell (World.block_lt_of_cell? w _ hw284_0)).trans hw284_0), ((HB.out.cell (World.block_lt_of_cell? w _ hw284_1)).trans hw284_1), ((HB.out.cell (World.block_lt_of_cell? w _ hw284_2)).trans hw284_2), ((HB.out.cell (World.block_lt_of_cell? w _ hw284_3)).trans hw284_3), ((HB.out.cell (World.block_lt_of_cell? w _ hw284_4)).trans hw284_4), ((HB.out.cell (World.block_lt_of_cell? w _ hw284_5)).trans hw284_5), ((HB.out.cell (World.block_lt_of_cell? w _ hw284_6)).trans hw284_6), ((HB.out.cell (World.block_lt_of_cell? w _ hw284_7)).trans hw284_7), ((HB.out.cell (World.block_lt_of_cell? w _ hw284_8)).trans hw284_8)⟩ (fun hHeld => ?_); refine with_tabW signalbenchlaw46_EvindexCandidates.tab8 signalbenchlaw46_EvindexCandidates.bits8 (fun HT_ HW_ => ?_)
          generalize wr.drew = w22 at HO_5 BK273 HB hx283_0 hx283_1 hx283_2 hx283_3 hx283_4 hx283_5 hx283_6 hx283_7 hx283_8 hx284_0 hx284_1 hx284_2 hx284_3 hx284_4 hx284_5 hx284_6 hx284_7 hx284_8 hHeld ⊢
          refine pu 0 22 (bsq 1 28) ?_
          refine tk 1 23 (bsq 2 27) hHeld ?_ (he := by rintro w' ⟨s0, s1, s2, s3, s4, s5, s6, s7, s8, s9, s10, s11, s12, s13, s14, s15, s16, s17, s18, s19, s20, s21, s22⟩; go_simp; with_reducible rfl)
          refine pu 2 24 (bsq 3 26) ?_
          refine pu 3 25 (bsq 4 25) ?_
          refine pu 4 26 (bsq 5 24) ?_
          refine pu 5 27 (bsq 6 23) ?_
          refine pu 6 28 (bsq 7 22) ?_
          refine pu 7 29 (bsq 8 21) ?_
          refine pu 9 31 (bls [8, 1, 1, 19]) ?_
          refine tk 8 30 (bsq 10 19) hHeld ?_ (he := by rintro w' ⟨s0, s1, s2, s3, s4, s5, s6, s7, s8, s9, s10, s11, s12, s13, s14, s15, s16, s17, s18, s19, s20, s21, s22⟩; go_simp; with_reducible rfl)
          refine tk 10 32 (bsq 11 18) hHeld ?_ (he := by rintro w' ⟨s0, s1, s2, s3, s4, s5, s6, s7, s8, s9, s10, s11, s12, s13, s14, s15, s16, s17, s18, s19, s20, s21, s22⟩; go_simp; with_reducible rfl)
          refine pu 11 33 (bsq 12 17) ?_
          refine pu 12 34 (bsq 13 16) ?_
          refine pu 13 35 (bsq 14 15) ?_
          refine pu 14 36 (bsq 15 14) ?_
          refine tk 15 37 (bsq 16 13) hHeld ?_ (he := by rintro w' ⟨s0, s1, s2, s3, s4, s5, s6, s7, s8, s9, s10, s11, s12, s13, s14, s15, s16, s17, s18, s19, s20, s21, s22⟩; go_simp; with_reducible rfl)
          refine pu 16 38 (bsq 17 12) ?_
          refine pu 17 39 (bsq 18 11) ?_
          refine pu 18 40 (bsq 19 10) ?_
          refine pu 19 41 (bsq 20 9) ?_
          refine pu 20 42 (bsq 21 8) ?_
          refine pu 21 43 (bsq 22 7) ?_
          refine pu 22 44 (bsq 23 6) ?_
          refine pu 24 46 (bls [23, 1, 1, 4]) ?_
          refine tk 23 45 (bsq 25 4) hHeld ?_ (he := by rintro w' ⟨s0, s1, s2, s3, s4, s5, s6, s7, s8, s9, s10, s11, s12, s13, s14, s15, s16, s17, s18, s19, s20, s21, s22⟩; go_simp; with_reducible rfl)
          refine tk 25 47 (bsq 26 3) hHeld ?_ (he := by rintro w' ⟨s0, s1, s2, s3, s4, s5, s6, s7, s8, s9, s10, s11, s12, s13, s14, s15, s16, s17, s18, s19, s20, s21, s22⟩; go_simp; with_reducible rfl)
          refine pu 26 48 (bsq 27 2) ?_
          refine pu 27 49 (bsq 28 1) ?_
          refine pu 28 50 (bsq 29 0) ?_
          refine done_ (done_of HT_.out (by kernel_rfl)) ?_
          try go_wp2
          go_meet
          case rel => exact ⟨_, ((((rd_T47 l0 x7_1).f2.f0) == a1_1)), (by first | rfl | (simp; done) | (simp [*]; done)), H', ⟨by have := HK1.out; first | omega | exact Nat.le_refl _⟩, ⟨by (with_reducible repeat (first | apply Kd.R_alloc | apply Kd.R_drewN | apply Kd.R_drew)); exact HO_5.out⟩, ⟨bg BK273.out⟩, ⟨bs HB.out⟩⟩
        ·
         rw [if_neg c19] at H
         have c19b0 : (((rd_T47 l0 x7_1).f0) == a1_0) = false := beq_eq_false_iff_ne.mpr c19
         have c19b1 : (((rd_T47 l0 x7_1).f0) != a1_0) = true := bne_iff_ne.mpr c19
         have H' := Aside0.mk H
         clear H
         try go_wp2
         have n0_ := Aside0.mk (Kd.R_drew HO_5.out)
         have n1_ := Aside0.mk (blk_drew BK273.out)
         have n2_ := Aside0.mk (below_drew1 HB.out)
         clear HO_5
         clear BK273
         clear HB
         have HO_5 := n0_
         have BK273 := n1_
         have HB := n2_
         clear n0_ n1_ n2_
         have p283 : 0 ≤ (x7_1 : Int) := of_decide_eq_true (by first | (with_reducible assumption) | assumption)
         have q283 : x7_1 < (l0.length : Int) := of_decide_eq_true (by first | (with_reducible assumption) | assumption)
         obtain ⟨ad283, e283, hx283_0, hx283_1, hx283_2, hx283_3, hx283_4, hx283_5, hx283_6, hx283_7, hx283_8⟩ := at_T47 HR0.out x7_1 p283 q283
         have hw283_8 := hx283_8
         have hw283_7 := hx283_7
         have hw283_6 := hx283_6
         have hw283_5 := hx283_5
         have hw283_4 := hx283_4
         have hw283_3 := hx283_3
         have hw283_2 := hx283_2
         have hw283_1 := hx283_1
         have hw283_0 := hx283_0
         cases e283
         replace hx283_0 := pw_cell_below HB.out hx283_0
         replace hx283_1 := pw_cell_below HB.out hx283_1
         replace hx283_2 := pw_cell_below HB.out hx283_2
         replace hx283_3 := pw_cell_below HB.out hx283_3
         replace hx283_4 := pw_cell_below HB.out hx283_4
         replace hx283_5 := pw_cell_below HB.out hx283_5
         replace hx283_6 := pw_cell_below HB.out hx283_6
         replace hx283_7 := pw_cell_below HB.out hx283_7
         replace hx283_8 := pw_cell_below HB.out hx283_8
         replace p283 := eq_true p283
         replace q283 := eq_true q283
         refine start_ (n := 29) (S := fun w' => w'.cell? ⟨gb273, 0, none⟩ = some (.int .i64 a1_0) ∧ w'.cell? ⟨gb273, 1, none⟩ = some (.int .i64 a1_1) ∧ w'.cell? ⟨gb273, 2, none⟩ = some (.int .i64 a1_2) ∧ w'.cell? ⟨gb273, 3, none⟩ = some (.int .i64 a1_3) ∧ w'.cell? ⟨gb273, 4, none⟩ = some (.int .i64 a1_4) ∧ w'.cell? (ad283.add ((x7_1).toNat * 9)) = some (.int .i64 ((rd_T47 l0 x7_1).f0)) ∧ w'.cell? ⟨(ad283.add ((x7_1).toNat * 9)).block, (ad283.add ((x7_1).toNat * 9)).off + 1, none⟩ = some (.int .i64 ((rd_T47 l0 x7_1).f1)) ∧ w'.cell? ⟨(ad283.add ((x7_1).toNat * 9)).block, (ad283.add ((x7_1).toNat * 9)).off + 2, none⟩ = some (.int .i64 ((rd_T47 l0 x7_1).f2.f0)) ∧ w'.cell? ⟨(ad283.add ((x7_1).toNat * 9)).block, (ad283.add ((x7_1).toNat * 9)).off + 3, none⟩ = some (.int .i64 ((rd_T47 l0 x7_1).f2.f1)) ∧ w'.cell? ⟨(ad283.add ((x7_1).toNat * 9)).block, (ad283.add ((x7_1).toNat * 9)).off + 4, none⟩ = some (.int .i64 ((rd_T47 l0 x7_1).f2.f2)) ∧ w'.cell? ⟨(ad283.add ((x7_1).toNat * 9)).block, (ad283.add ((x7_1).toNat * 9)).off + 5, none⟩ = some (.int .i64 ((rd_T47 l0 x7_1).f2.f3)) ∧ w'.cell? ⟨(ad283.add ((x7_1).toNat * 9)).block, (ad283.add ((x7_1).toNat * 9)).off + 6, none⟩ = some (.int .i64 ((rd_T47 l0 x7_1).f2.f4)) ∧ w'.cell? ⟨(ad283.add ((x7_1).toNat * 9)).block, (ad283.add ((x7_1).toNat * 9)).off + 7, none⟩ = some (.string ((rd_T47 l0 x7_1).f2.f5)) ∧ w'.cell? ⟨(ad283.add ((x7_1).toNat * 9)).block, (ad283.add ((x7_1).toNat * 9)).off + 8, none⟩ = some (.int .i64 ((rd_T47 l0 x7_1).f2.f6))) (ds := []) (bsq 0 29) (by kernel_rfl) rfl rfl ⟨(blk_cell BK273.out 0).trans rfl, (blk_cell BK273.out 1).trans rfl, (blk_cell BK273.out 2).trans rfl, (blk_cell BK273.out 3).trans rfl, (blk_cell BK273.out 4).trans rfl, ((HB.out.cell (World.block_lt_of_cell? w _ hw283_0)).trans hw283_0), ((HB.out.cell (World.block_lt_of_cell? w _ hw283_1)).trans hw283_1), ((HB.out.cell (World.block_lt_of_cell? w _ hw283_2)).trans hw283_2), ((HB.out.cell (World.block_lt_of_cell? w _ hw283_3)).trans hw283_3), ((HB.out.cell (World.block_lt_of_cell? w _ hw283_4)).trans hw283_4), ((HB.out.cell (World.block_lt_of_cell? w _ hw283_5)).trans hw283_5), ((HB.out.cell (World.block_lt_of_cell? w _ hw283_6)).trans hw283_6), ((HB.out.cell (World.block_lt_of_cell? w _ hw283_7)).trans hw283_7), ((HB.out.cell (World.block_lt_of_cell? w _ hw283_8)).trans hw283_8)⟩ (fun hHeld => ?_); refine with_tabW signalbenchlaw46_EvindexCandidates.tab8 signalbenchlaw46_EvindexCandidates.bits8 (fun HT_ HW_ => ?_)
         generalize wr.drew = w23 at HO_5 BK273 HB hx283_0 hx283_1 hx283_2 hx283_3 hx283_4 hx283_5 hx283_6 hx283_7 hx283_8 hHeld ⊢
         refine pu 0 22 (bsq 1 28) ?_
         refine tk 1 23 (bsq 2 27) hHeld ?_ (he := by rintro w' ⟨s0, s1, s2, s3, s4, s5, s6, s7, s8, s9, s10, s11, s12, s13⟩; go_simp; with_reducible rfl)
         refine pu 2 24 (bsq 3 26) ?_
         refine pu 3 25 (bsq 4 25) ?_
         refine pu 4 26 (bsq 5 24) ?_
         refine pu 5 27 (bsq 6 23) ?_
         refine pu 6 28 (bsq 7 22) ?_
         refine pu 7 29 (bsq 8 21) ?_
         refine pu 9 31 (bls [8, 1, 1, 19]) ?_
         refine tk 8 30 (bsq 10 19) hHeld ?_ (he := by rintro w' ⟨s0, s1, s2, s3, s4, s5, s6, s7, s8, s9, s10, s11, s12, s13⟩; go_simp; with_reducible rfl)
         refine tk 10 32 (bsq 11 18) hHeld ?_ (he := by rintro w' ⟨s0, s1, s2, s3, s4, s5, s6, s7, s8, s9, s10, s11, s12, s13⟩; go_simp; with_reducible rfl)
         refine pu 11 33 (bsq 12 17) ?_
         refine pu 12 34 (bsq 13 16) ?_
         refine pu 13 35 (bsq 14 15) ?_
         refine un 14 36 (bsq 15 14) ?_
         refine un 15 37 (bsq 16 13) ?_
         refine un 16 38 (bsq 17 12) ?_
         refine un 17 39 (bsq 18 11) ?_
         refine un 18 40 (bsq 19 10) ?_
         refine un 19 41 (bsq 20 9) ?_
         refine un 20 42 (bsq 21 8) ?_
         refine un 21 43 (bsq 22 7) ?_
         refine un 22 44 (bsq 23 6) ?_
         refine un 23 45 (bsq 24 5) ?_
         refine un 24 46 (bsq 25 4) ?_
         refine un 25 47 (bsq 26 3) ?_
         refine un 26 48 (bsq 27 2) ?_
         refine un 27 49 (bsq 28 1) ?_
         refine pu 28 50 (bsq 29 0) ?_
         refine done_ (done_of HT_.out (by kernel_rfl)) ?_
         try go_wp2
         go_meet
         case rel => exact ⟨_, (false), (by first | rfl | (simp; done) | (simp [*]; done)), H', ⟨by have := HK1.out; first | omega | exact Nat.le_refl _⟩, ⟨by (with_reducible repeat (first | apply Kd.R_alloc | apply Kd.R_drewN | apply Kd.R_drew)); exact HO_5.out⟩, ⟨bg BK273.out⟩, ⟨bs HB.out⟩⟩
       ·
        rw [if_neg c18] at H
        exact absurd H (by simp)
     case rest =>
      clear HC15
      try clear c1
      try clear c2
      try clear p2
      try clear q2
      try clear hx2
      try clear c18
      try clear c19
      try clear c19b0
      try clear c19b1
      try clear c20
      try clear c20b0
      try clear c20b1
      try clear hx283_0
      try clear hx283_1
      try clear hx283_2
      try clear hx283_3
      try clear hx283_4
      try clear hx283_5
      try clear hx283_6
      try clear hx283_7
      try clear hx283_8
      try clear hx284_0
      try clear hx284_1
      try clear hx284_2
      try clear hx284_3
      try clear hx284_4
      try clear hx284_5
      try clear hx284_6
      try clear hx284_7
      try clear hx284_8
      try clear p283
      try clear p284
      try clear q283
      try clear q284
      obtain ⟨kq, x50_14, rfl, HA, HJ14, HO_5, BK273, HB⟩ := hcut
      cases kq with
      | zero => exact absurd HA.out (by simp [signalbenchlaw46_EvindexCandidates.j1])
      | succ kj14 =>
       have H := HA.out
       clear HA
       simp only [signalbenchlaw46_EvindexCandidates.j1] at H
       by_cases c24 : x50_14 = true
       ·
        subst c24
        have H1 : (if x6_1 ≥ (t279.length : Int) then (some false) else (if 0 ≤ x6_1 then (if x6_1 < (t279.length : Int) then (if (rd t279 x6_1) = x7_1 then (signalbenchlaw46_EvindexCandidates.l0 kj14 l0 t279 (wrap64 (x6_1 + 1)) (wrap64 (x7_1 + 1)) a1_0 a1_1 a1_2 a1_3 a1_4) else (some false)) else (none)) else (none))) = some r := by rw [if_pos rfl] at H; exact H
        clear H
        have H := H1
        clear H1
        by_cases c25 : x6_1 ≥ (t279.length : Int)
        ·
         rw [if_pos c25] at H
         have c25b0 : decide ((t279.length : Int) ≤ x6_1) = true := decide_eq_true c25
         clear c25
         obtain rfl := Option.some.inj H
         obtain ⟨Ao26, co26, eo26⟩ := Kd.R_slice HO_5.out
         subst eo26
         go_wp2
         go_ret
         exact ⟨by first | rfl | (simp [errW_none, errW_some] <;> rfl) | (simp [*, errW_none, errW_some] <;> rfl), bs HB.out⟩
        ·
         rw [if_neg c25] at H
         have c25b0 : decide ((t279.length : Int) ≤ x6_1) = false := decide_eq_false c25
         clear c25
         by_cases c27 : 0 ≤ x6_1
         ·
          rw [if_pos c27] at H
          have c27b0 : decide (0 ≤ x6_1) = true := decide_eq_true c27
          clear c27
          by_cases c28 : x6_1 < (t279.length : Int)
          ·
           rw [if_pos c28] at H
           have c28b0 : decide (x6_1 < (t279.length : Int)) = true := decide_eq_true c28
           clear c28
           by_cases c29 : (rd t279 x6_1) = x7_1
           ·
            rw [if_pos c29] at H
            have c29b0 : ((rd t279 x6_1) == x7_1) = true := beq_iff_eq.mpr c29
            have c29b1 : ((rd t279 x6_1) != x7_1) = false := bne_eq_false_iff_eq.mpr c29
            clear c29
            have H' := Aside0.mk H
            clear H
            obtain ⟨Ao30, co30, eo30⟩ := Kd.R_slice HO_5.out
            subst eo30
            have p285 : 0 ≤ (x6_1 : Int) := of_decide_eq_true (by first | (with_reducible assumption) | assumption)
            have q285 : x6_1 < (t279.length : Int) := of_decide_eq_true (by first | (with_reducible assumption) | assumption)
            obtain ⟨ad285, e285, hx285_0⟩ := Kd.at_int (Kd.R_reads' HO_5.out).2.2 x6_1 p285 q285
            cases e285
            replace p285 := eq_true p285
            replace q285 := eq_true q285
            go_wp2
            go_roundg kj14
            case measure => have := HK1.out; have := HJ14.out; omega
            case rel => exact ⟨(wrap64 (x6_1 + 1)), (wrap64 (x7_1 + 1)), (by first | rfl | (simp; done) | (simp [*]; done)), (by first | rfl | (simp; done) | (simp [*]; done)), H', ⟨by have := HK1.out; have := HJ14.out; omega⟩, ⟨by (with_reducible repeat (first | apply Kd.R_alloc | apply Kd.R_drewN | apply Kd.R_drew)); exact HO_5.out⟩, ⟨bg BK273.out⟩, ⟨bs HB.out⟩⟩
           ·
            rw [if_neg c29] at H
            have c29b0 : ((rd t279 x6_1) == x7_1) = false := beq_eq_false_iff_ne.mpr c29
            have c29b1 : ((rd t279 x6_1) != x7_1) = true := bne_iff_ne.mpr c29
            obtain rfl := Option.some.inj H
            obtain ⟨Ao31, co31, eo31⟩ := Kd.R_slice HO_5.out
            subst eo31
            have p285 : 0 ≤ (x6_1 : Int) := of_decide_eq_true (by first | (with_reducible assumption) | assumption)
            have q285 : x6_1 < (t279.length : Int) := of_decide_eq_true (by first | (with_reducible assumption) | assumption)
            obtain ⟨ad285, e285, hx285_0⟩ := Kd.at_int (Kd.R_reads' HO_5.out).2.2 x6_1 p285 q285
            cases e285
            replace p285 := eq_true p285
            replace q285 := eq_true q285
            go_wp2
            go_ret
            exact ⟨by first | rfl | (simp [errW_none, errW_some] <;> rfl) | (simp [*, errW_none, errW_some] <;> rfl), bs HB.out⟩
          ·
           rw [if_neg c28] at H
           exact absurd H (by simp)
         ·
          rw [if_neg c27] at H
          exact absurd H (by simp)
       ·
        replace c24 := Bool.eq_false_iff.mpr c24
        subst c24
        have H1 : (signalbenchlaw46_EvindexCandidates.l0 kj14 l0 t279 x6_1 (wrap64 (x7_1 + 1)) a1_0 a1_1 a1_2 a1_3 a1_4) = some r := by rw [if_neg (show ¬ (false = true) by decide)] at H; exact H
        clear H
        have H := H1
        clear H1
        have H' := Aside0.mk H
        clear H
        go_wp2
        go_roundg kj14
        case measure => have := HK1.out; have := HJ14.out; omega
        case rel => exact ⟨(x6_1), (wrap64 (x7_1 + 1)), (by first | rfl | (simp; done) | (simp [*]; done)), (by first | rfl | (simp; done) | (simp [*]; done)), H', ⟨by have := HK1.out; have := HJ14.out; omega⟩, ⟨by (with_reducible repeat (first | apply Kd.R_alloc | apply Kd.R_drewN | apply Kd.R_drew)); exact HO_5.out⟩, ⟨bg BK273.out⟩, ⟨bs HB.out⟩⟩
    ·
     rw [if_neg c14] at H
     have c14b0 : decide (x7_1 < (l0.length : Int)) = false := decide_eq_false c14
     clear c14
     by_cases c32 : x6_1 = (t279.length : Int)
     ·
      rw [if_pos c32] at H
      have c32b0 : (x6_1 == (t279.length : Int)) = true := beq_iff_eq.mpr c32
      have c32b1 : (x6_1 != (t279.length : Int)) = false := bne_eq_false_iff_eq.mpr c32
      clear c32
      replace H := Option.bind_eq_some_iff.mp H
      obtain ⟨t282, A330, H⟩ := H
      replace H : (some t282) = some r := H
      have A33 := Aside0.mk A330
      clear A330
      obtain rfl := Option.some.inj H
      obtain ⟨Ao34, co34, eo34⟩ := Kd.R_slice HO_5.out
      subst eo34
      go_wp2_with (first | (go_at_call 9; (with_reducible refine (signalbenchlaw46_awake.calls k1  t282 _ A33.out).mono ?_); rintro e w35 ⟨rfl, hb⟩; have n0_ := Aside0.mk (Kd.R_below (rq HO_5.out) hb); have n1_ := Aside0.mk (blk_below (bg BK273.out) hb); have n2_ := Aside0.mk (below_step (bs HB.out) hb); clear HO_5; clear BK273; clear HB; have HO_5 := n0_; have BK273 := n1_; have HB := n2_; clear n0_ n1_ n2_; (try clear hb); (try clear hb2); (try clear hk); (try clear hi)))
      go_ret
      exact ⟨by first | rfl | (simp [errW_none, errW_some] <;> rfl) | (simp [*, errW_none, errW_some] <;> rfl), bs HB.out⟩
     ·
      rw [if_neg c32] at H
      have c32b0 : (x6_1 == (t279.length : Int)) = false := beq_eq_false_iff_ne.mpr c32
      have c32b1 : (x6_1 != (t279.length : Int)) = true := bne_iff_ne.mpr c32
      obtain rfl := Option.some.inj H
      obtain ⟨Ao36, co36, eo36⟩ := Kd.R_slice HO_5.out
      subst eo36
      go_wp2
      go_ret
      exact ⟨by first | rfl | (simp [errW_none, errW_some] <;> rfl) | (simp [*, errW_none, errW_some] <;> rfl), bs HB.out⟩

end Go.Proofs.Yteifekndhgkgcaa.H
