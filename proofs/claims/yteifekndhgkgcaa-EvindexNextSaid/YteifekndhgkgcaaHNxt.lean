/- EvindexNext: what the code computes; no condition. -/
import Derived.Test.YteifekndhgkgcaaH1
import Derived.Test.YteifekndhgkgcaaH2
import Derived.Test.YteifekndhgkgcaaHBld
namespace Go.Proofs.Yteifekndhgkgcaa.H
open Go.RowKit Go.Proofs.YteifekndhgkgcaaW.PrintWords Go.Proofs.YteifekndhgkgcaaW.PrintLast Go.Proofs.YteifekndhgkgcaaW.PrintMore
attribute [local go_sem] max2_int min2_int max_two min_two max_three min_three max_four min_four
set_option linter.unusedVariables false
set_option linter.unusedSimpArgs false
/-! ### signalbenchlaw46_EvindexNext: function 8 -/
def signalbenchlaw46_EvindexNext.l0 : Nat → List (S47) → Int → Int → Int → Int → Int → Option (Bool)
 | 0, _, _, _, _, _, _ => none
 | k + 1, x0, x5, x6, x136000, x136001, x136002 => if x6 ≥ 0 then (if x6 ≥ x136002 then (if 0 ≤ x6 then (if x6 < (x0.length : Int) then (if ((rd_T47 x0 x6).f0) = x136000 then (if ((rd_T47 x0 x6).f2.f0) = x136001 then (signalbenchlaw46_EvindexNext.l0 k x0 x6 (wrap64 (x6 - 1)) x136000 x136001 x136002) else (signalbenchlaw46_EvindexNext.l0 k x0 x5 (wrap64 (x6 - 1)) x136000 x136001 x136002)) else (signalbenchlaw46_EvindexNext.l0 k x0 x5 (wrap64 (x6 - 1)) x136000 x136001 x136002)) else (none)) else (none)) else (signalbenchlaw46_EvindexNext.l0 k x0 x5 (wrap64 (x6 - 1)) x136000 x136001 x136002)) else ((evindex_Build.f x0).bind fun bt139 => ((evindex_Next.f k bt139.1 bt139.2 x136000 x136001 x136002).bind fun t143 => (if t143 = x5 then ((signalbenchlaw46_awake.f k).bind fun t144 => (some t144)) else (some false))))
def signalbenchlaw46_EvindexNext.f (k : Nat) (l0 : List (S47)) (a1_0 : Int) (a1_1 : Int) (a1_2 : Int) : Option (Bool) := if (l0.length : Int) > 60 then ((signalbenchlaw46_awake.f k).bind fun t136 => (some t136)) else (signalbenchlaw46_EvindexNext.l0 k l0 (-1) (wrap64 ((l0.length : Int) - 1)) a1_0 a1_1 a1_2)
def signalbenchlaw46_EvindexNext.T7 : Bool × List (List Nat × List Nat) := (true, [([], []), ([], []), ([1], [1]), ([0, 2], [0, 2]), ([3], [3]), ([4], [4]), ([4], [4]), ([5, 6, 4], [4, 5, 6]), ([7, 4], [4, 7]), ([8, 4], [4, 8]), ([4], [4]), ([10, 4], [4, 10]), ([9, 11, 4], [4, 9, 11]), ([4, 12], [4, 12]), ([13, 4], [13]), ([14], [14]), ([14], [14]), ([15, 16, 14], [14, 15, 16]), ([17, 14], [14, 17]), ([18, 14], [14, 18]), ([19, 14], [14, 19]), ([14], [14]), ([21, 14], [14, 21]), ([20, 22, 14], [14, 20, 22]), ([14, 23], [14, 23])])
def signalbenchlaw46_EvindexNext.B7 : List Nat := [0, 0, 2, 7, 15, 31, 31, 127, 255, 511, 31, 1055, 4095, 8191, 16383, 32767, 32767, 131071, 262143, 524287, 1048575, 32767, 2129919, 8388607, 16777215]
theorem signalbenchlaw46_EvindexNext.tab7 : rtab .any (opsOf Try.f8 7) = signalbenchlaw46_EvindexNext.T7 := by kernel_rfl
theorem signalbenchlaw46_EvindexNext.bits7 : waitsOk signalbenchlaw46_EvindexNext.T7.2 signalbenchlaw46_EvindexNext.B7 = true := by kernel_rfl
def signalbenchlaw46_EvindexNext.T9 : Bool × List (List Nat × List Nat) := (true, [([], []), ([0], [0]), ([], []), ([2], [2]), ([], []), ([4], [4]), ([], []), ([6], [6]), ([1, 3, 5, 7, 1], [1, 3, 5, 7]), ([], []), ([8, 9], [8, 9]), ([10, 8], [10]), ([11, 11], [11]), ([11, 12], [11, 12]), ([13, 12, 0, 1, 2, 3, 4, 5, 6, 7, 8, 9, 10, 11, 12, 13], [13])])
def signalbenchlaw46_EvindexNext.B9 : List Nat := [0, 1, 0, 4, 0, 16, 0, 64, 255, 0, 1023, 2047, 4095, 8191, 16383]
theorem signalbenchlaw46_EvindexNext.tab9 : rtab .any (opsOf Try.f8 9) = signalbenchlaw46_EvindexNext.T9 := by kernel_rfl
theorem signalbenchlaw46_EvindexNext.bits9 : waitsOk signalbenchlaw46_EvindexNext.T9.2 signalbenchlaw46_EvindexNext.B9 = true := by kernel_rfl
set_option maxHeartbeats 8000000 in
set_option maxRecDepth 100000 in
theorem signalbenchlaw46_EvindexNext.calls (k : Nat) (A0 : Option Addr) (c0 : Nat) (l0 : List (S47)) (a1_0 : Int) (a1_1 : Int) (a1_2 : Int) (r : Bool) (w : World) (hr0 : Kd.C k47 w A0 l0.length l0) (hc0 : l0.length ≤ c0) (h : signalbenchlaw46_EvindexNext.f k l0 a1_0 a1_1 a1_2 = some r) :
  Calls Try.prog 8 #[.slice A0 l0.length c0, .agg #[.int .i64 a1_0, .int .i64 a1_1, .int .i64 a1_2]] w fun e w' => e = .returned (.bool r) ∧ Below w.heap.size w w' := by
 have hu49 := Try.underlying49
 have HR0 := Aside0.mk hr0
 have HC0 := Aside0.mk hc0
 clear hr0 hc0
 have HB := Aside0.mk (Below.refl w.heap.size w)
 have H : (if (l0.length : Int) > 60 then ((signalbenchlaw46_awake.f k).bind fun t136 => (some t136)) else (signalbenchlaw46_EvindexNext.l0 k l0 (-1) (wrap64 ((l0.length : Int) - 1)) a1_0 a1_1 a1_2)) = some r := h
 clear h
 by_cases c3 : (l0.length : Int) > 60
 ·
  rw [if_pos c3] at H
  have c3b0 : decide (60 < (l0.length : Int)) = true := decide_eq_true c3
  have c3b1 : decide (60 < l0.length) = true := decide_eq_true (by omega)
  clear c3
  replace H := Option.bind_eq_some_iff.mp H
  obtain ⟨t136, A40, H⟩ := H
  replace H : (some t136) = some r := H
  have A4 := Aside0.mk A40
  clear A40
  obtain rfl := Option.some.inj H
  go_enter Try.func8, Try.ntmps8
  go_wp2_with (first | ((with_reducible refine gate_dst (N := 3) rfl ?_); refine box_event ?hg (N := 3) ?hd (cs := #[.int .i64 a1_0, .int .i64 a1_1, .int .i64 a1_2]) (t := 49) ?hr ?_; (case hd => rfl); (case hg => rfl); (case hr => first | (go_simp; done) | (go_simp; rfl)); intro gb135 hg w5 hbox hb; have n0_ := Aside0.mk (below_step (bs HB.out) hb); have n1_ := Aside0.mk (hbox); have n2_ := Aside0.mk ((by rw [hg]; exact (below_size (bs HB.out)) : w.heap.size ≤ gb135)); have n3_ := n2_; clear HB; have HB := n0_; have BK135 := n1_; have GW135 := n2_; have GE135 := n3_; clear n0_ n1_ n2_ n3_; clear hb hbox hg) | ((with_reducible refine gate_callee (f := 9) rfl ?_); refine goesL_ (some 10) rfl rfl Try.func9 (by kernel_rfl) rfl #[] rfl (by (try simp only [List.map_toArray, List.map_cons, List.map_nil]); first | done | rfl | (simp only [List.length_drop, List.length_take]; rfl)) ?_; (with_reducible refine (signalbenchlaw46_awake.calls k  t136 _ A4.out).mono ?_); rintro e w6 ⟨rfl, hb⟩; refine ⟨_, rfl, ?_⟩; have n0_ := Aside0.mk (blk_below (bg BK135.out) hb); have n1_ := Aside0.mk (below_step (bs HB.out) hb); clear BK135; clear HB; have BK135 := n0_; have HB := n1_; clear n0_ n1_; (try clear hb); (try clear hb2); (try clear hk); (try clear hi)))
  go_ret
  exact ⟨by first | rfl | (simp [errW_none, errW_some] <;> rfl) | (simp [*, errW_none, errW_some] <;> rfl), bs HB.out⟩
 ·
  rw [if_neg c3] at H
  have c3b0 : decide (60 < (l0.length : Int)) = false := decide_eq_false c3
  have c3b1 : decide (60 < l0.length) = false := decide_eq_false (by omega)
  clear c3
  have H' := Aside0.mk H
  clear H
  go_enter Try.func8, Try.ntmps8
  go_wp2_with (first | ((with_reducible refine gate_dst (N := 3) rfl ?_); refine box_event ?hg (N := 3) ?hd (cs := #[.int .i64 a1_0, .int .i64 a1_1, .int .i64 a1_2]) (t := 49) ?hr ?_; (case hd => rfl); (case hg => rfl); (case hr => first | (go_simp; done) | (go_simp; rfl)); intro gb135 hg w7 hbox hb; have n0_ := Aside0.mk (below_step (bs HB.out) hb); have n1_ := Aside0.mk (hbox); have n2_ := Aside0.mk ((by rw [hg]; exact (below_size (bs HB.out)) : w.heap.size ≤ gb135)); have n3_ := n2_; clear HB; have HB := n0_; have BK135 := n1_; have GW135 := n2_; have GE135 := n3_; clear n0_ n1_ n2_ n3_; clear hb hbox hg))
  go_loopg [5, 6] k (fun kq v5 v6 w' => ∃ (x5_1 : Int) (x6_1 : Int), v5 = .int .i64 x5_1 ∧ v6 = .int .i64 x6_1 ∧ Aside0 (signalbenchlaw46_EvindexNext.l0 kq l0 x5_1 x6_1 a1_0 a1_1 a1_2 = some r) ∧ Aside0 (kq ≤ k) ∧ Aside0 (w'.heap[gb135]? = some (.cells #[.int .i64 a1_0, .int .i64 a1_1, .int .i64 a1_2] 49 (0, 0))) ∧ Aside0 (Below w.heap.size w w'))
  case atStart => exact ⟨((-1)), (wrap64 ((l0.length : Int) - 1)), (by first | rfl | (simp; done) | (simp [*]; done)), (by first | rfl | (simp; done) | (simp [*]; done)), H', ⟨Nat.le_refl _⟩, ⟨bg BK135.out⟩, ⟨bs HB.out⟩⟩
  case round =>
   clear H'
   try clear p2
   try clear c3
   try clear c3b0
   try clear c3b1
   try clear p6
   obtain ⟨x5_1, x6_1, rfl, rfl, HA, HK1, BK135, HB⟩ := hrel
   cases gk with
   | zero => exact absurd HA.out (by simp [signalbenchlaw46_EvindexNext.l0])
   | succ k1 =>
    have H := HA.out
    clear HA
    simp only [signalbenchlaw46_EvindexNext.l0] at H
    by_cases c8 : x6_1 ≥ 0
    ·
     rw [if_pos c8] at H
     have c8b0 : decide (0 ≤ x6_1) = true := decide_eq_true c8
     clear c8
     by_cases c9 : x6_1 ≥ a1_2
     ·
      rw [if_pos c9] at H
      have c9b0 : decide (a1_2 ≤ x6_1) = true := decide_eq_true c9
      clear c9
      by_cases c10 : 0 ≤ x6_1
      ·
       rw [if_pos c10] at H
       have c10b0 : decide (0 ≤ x6_1) = true := decide_eq_true c10
       clear c10
       by_cases c11 : x6_1 < (l0.length : Int)
       ·
        rw [if_pos c11] at H
        have c11b0 : decide (x6_1 < (l0.length : Int)) = true := decide_eq_true c11
        clear c11
        by_cases c12 : ((rd_T47 l0 x6_1).f0) = a1_0
        ·
         rw [if_pos c12] at H
         have c12b0 : (((rd_T47 l0 x6_1).f0) == a1_0) = true := beq_iff_eq.mpr c12
         have c12b1 : (((rd_T47 l0 x6_1).f0) != a1_0) = false := bne_eq_false_iff_eq.mpr c12
         clear c12
         by_cases c13 : ((rd_T47 l0 x6_1).f2.f0) = a1_1
         ·
          rw [if_pos c13] at H
          have c13b0 : (((rd_T47 l0 x6_1).f2.f0) == a1_1) = true := beq_iff_eq.mpr c13
          have c13b1 : (((rd_T47 l0 x6_1).f2.f0) != a1_1) = false := bne_eq_false_iff_eq.mpr c13
          clear c13
          have H' := Aside0.mk H
          clear H
          try go_wp2
          have n0_ := Aside0.mk (blk_drew BK135.out)
          have n1_ := Aside0.mk (below_drew1 HB.out)
          clear BK135
          clear HB
          have BK135 := n0_
          have HB := n1_
          clear n0_ n1_
          have p137 : 0 ≤ (x6_1 : Int) := of_decide_eq_true (by first | (with_reducible assumption) | assumption)
          have q137 : x6_1 < (l0.length : Int) := of_decide_eq_true (by first | (with_reducible assumption) | assumption)
          obtain ⟨ad137, e137, hx137_0, hx137_1, hx137_2, hx137_3, hx137_4, hx137_5, hx137_6, hx137_7, hx137_8⟩ := at_T47 HR0.out x6_1 p137 q137
          have hw137_8 := hx137_8
          have hw137_7 := hx137_7
          have hw137_6 := hx137_6
          have hw137_5 := hx137_5
          have hw137_4 := hx137_4
          have hw137_3 := hx137_3
          have hw137_2 := hx137_2
          have hw137_1 := hx137_1
          have hw137_0 := hx137_0
          cases e137
          replace hx137_0 := pw_cell_below HB.out hx137_0
          replace hx137_1 := pw_cell_below HB.out hx137_1
          replace hx137_2 := pw_cell_below HB.out hx137_2
          replace hx137_3 := pw_cell_below HB.out hx137_3
          replace hx137_4 := pw_cell_below HB.out hx137_4
          replace hx137_5 := pw_cell_below HB.out hx137_5
          replace hx137_6 := pw_cell_below HB.out hx137_6
          replace hx137_7 := pw_cell_below HB.out hx137_7
          replace hx137_8 := pw_cell_below HB.out hx137_8
          replace p137 := eq_true p137
          replace q137 := eq_true q137
          have p138 : 0 ≤ (x6_1 : Int) := of_decide_eq_true (by first | (with_reducible assumption) | assumption)
          have q138 : x6_1 < (l0.length : Int) := of_decide_eq_true (by first | (with_reducible assumption) | assumption)
          obtain ⟨ad138, e138, hx138_0, hx138_1, hx138_2, hx138_3, hx138_4, hx138_5, hx138_6, hx138_7, hx138_8⟩ := at_T47 HR0.out x6_1 p138 q138
          have hw138_8 := hx138_8
          have hw138_7 := hx138_7
          have hw138_6 := hx138_6
          have hw138_5 := hx138_5
          have hw138_4 := hx138_4
          have hw138_3 := hx138_3
          have hw138_2 := hx138_2
          have hw138_1 := hx138_1
          have hw138_0 := hx138_0
          obtain rfl : ad137 = ad138 := (by injection e138)
          replace hx138_0 := pw_cell_below HB.out hx138_0
          replace hx138_1 := pw_cell_below HB.out hx138_1
          replace hx138_2 := pw_cell_below HB.out hx138_2
          replace hx138_3 := pw_cell_below HB.out hx138_3
          replace hx138_4 := pw_cell_below HB.out hx138_4
          replace hx138_5 := pw_cell_below HB.out hx138_5
          replace hx138_6 := pw_cell_below HB.out hx138_6
          replace hx138_7 := pw_cell_below HB.out hx138_7
          replace hx138_8 := pw_cell_below HB.out hx138_8
          replace p138 := eq_true p138
          replace q138 := eq_true q138
          refine start_ (n := 25) (S := fun w' => w'.cell? ⟨gb135, 0, none⟩ = some (.int .i64 a1_0) ∧ w'.cell? ⟨gb135, 1, none⟩ = some (.int .i64 a1_1) ∧ w'.cell? ⟨gb135, 2, none⟩ = some (.int .i64 a1_2) ∧ w'.cell? (ad137.add ((x6_1).toNat * 9)) = some (.int .i64 ((rd_T47 l0 x6_1).f0)) ∧ w'.cell? ⟨(ad137.add ((x6_1).toNat * 9)).block, (ad137.add ((x6_1).toNat * 9)).off + 1, none⟩ = some (.int .i64 ((rd_T47 l0 x6_1).f1)) ∧ w'.cell? ⟨(ad137.add ((x6_1).toNat * 9)).block, (ad137.add ((x6_1).toNat * 9)).off + 2, none⟩ = some (.int .i64 ((rd_T47 l0 x6_1).f2.f0)) ∧ w'.cell? ⟨(ad137.add ((x6_1).toNat * 9)).block, (ad137.add ((x6_1).toNat * 9)).off + 3, none⟩ = some (.int .i64 ((rd_T47 l0 x6_1).f2.f1)) ∧ w'.cell? ⟨(ad137.add ((x6_1).toNat * 9)).block, (ad137.add ((x6_1).toNat * 9)).off + 4, none⟩ = some (.int .i64 ((rd_T47 l0 x6_1).f2.f2)) ∧ w'.cell? ⟨(ad137.add ((x6_1).toNat * 9)).block, (ad137.add ((x6_1).toNat * 9)).off + 5, none⟩ = some (.int .i64 ((rd_T47 l0 x6_1).f2.f3)) ∧ w'.cell? ⟨(ad137.add ((x6_1).toNat * 9)).block, (ad137.add ((x6_1).toNat * 9)).off + 6, none⟩ = some (.int .i64 ((rd_T47 l0 x6_1).f2.f4)) ∧ w'.cell? ⟨(ad137.add ((x6_1).toNat * 9)).block, (ad137.add ((x6_1).toNat * 9)).off + 7, none⟩ = some (.string ((rd_T47 l0 x6_1).f2.f5)) ∧ w'.cell? ⟨(ad137.add ((x6_1).toNat * 9)).block, (ad137.add ((x6_1).toNat * 9)).off + 8, none⟩ = some (.int .i64 ((rd_T47 l0 x6_1).f2.f6)) ∧ w'.cell? (ad137.add ((x6_1).toNat * 9)) = some (.int .i64 ((rd_T47 l0 x6_1).f0)) ∧ w'.cell? ⟨(ad137.add ((x6_1).toNat * 9)).block, (ad137.add ((x6_1).toNat * 9)).off + 1, none⟩ = some (.int .i64 ((rd_T47 l0 x6_1).f1)) ∧ w'.cell? ⟨(ad137.add ((x6_1).toNat * 9)).block, (ad137.add ((x6_1).toNat * 9)).off + 2, none⟩ = some (.int .i64 ((rd_T47 l0 x6_1).f2.f0)) ∧ w'.cell? ⟨(ad137.add ((x6_1).toNat * 9)).block, (ad137.add ((x6_1).toNat * 9)).off + 3, none⟩ = some (.int .i64 ((rd_T47 l0 x6_1).f2.f1)) ∧ w'.cell? ⟨(ad137.add ((x6_1).toNat * 9)).block, (ad137.add ((x6_1).toNat * 9)).off + 4, none⟩ = some (.int .i64 ((rd_T47 l0 x6_1).f2.f2)) ∧ w'.cell? ⟨(ad137.add ((x6_1).toNat * 9)).block, (ad137.add ((x6_1).toNat * 9)).off + 5, none⟩ = some (.int .i64 ((rd_T47 l0 x6_1).f2.f3)) ∧ w'.cell? ⟨(ad137.add ((x6_1).toNat * 9)).block, (ad137.add ((x6_1).toNat * 9)).off + 6, none⟩ = some (.int .i64 ((rd_T47 l0 x6_1).f2.f4)) ∧ w'.cell? ⟨(ad137.add ((x6_1).toNat * 9)).block, (ad137.add ((x6_1).toNat * 9)).off + 7, none⟩ = some (.string ((rd_T47 l0 x6_1).f2.f5)) ∧ w'.cell? ⟨(ad137.add ((x6_1).toNat * 9)).block, (ad137.add ((x6_1).toNat * 9)).off + 8, none⟩ = some (.int .i64 ((rd_T47 l0 x6_1).f2.f6))) (ds := []) (bsq 0 25) (by kernel_rfl) rfl rfl ⟨(blk_cell BK135.out 0).trans rfl, (blk_cell BK135.out 1).trans rfl, (blk_cell BK135.out 2).trans rfl, ((HB.out.cell (World.block_lt_of_cell? w _ hw137_0)).trans hw137_0), ((HB.out.cell (World.block_lt_of_cell? w _ hw137_1)).trans hw137_1), ((HB.out.cell (World.block_lt_of_cell? w _ hw137_2)).trans hw137_2), ((HB.out.cell (World.block_lt_of_cell? w _ hw137_3)).trans hw137_3), ((HB.out.cell (World.block_lt_of_cell? w _ hw137_4)).trans hw137_4), ((HB.out.cell (World.block_lt_of_cell? w _ hw137_5)).trans hw137_5), ((HB.out.cell (World.block_lt_of_cell? w _ hw137_6)).trans hw137_6), ((HB.out.cell (World.block_lt_of_cell? w _ hw137_7)).trans hw137_7), ((HB.out.cell (World.block_lt_of_cell? w _ hw137_8)).trans hw137_8), ((HB.out.cell (World.block_lt_of_cell? w _ hw138_0)).trans hw138_0), ((HB.out.cell (World.block_lt_of_cell? w _ hw138_1)).trans hw138_1), ((HB.out.cell (World.block_lt_of_cell? w _ hw138_2)).trans hw138_2), ((HB.out.cell (World.block_lt_of_cell? w _ hw138_3)).trans hw138_3), ((HB.out.cell (World.block_lt_of_cell? w _ hw138_4)).trans hw138_4), ((HB.out.cell (World.block_lt_of_cell? w _ hw138_5)).trans hw138_5), ((HB.out.cell (World.block_lt_of_cell? w _ hw138_6)).trans hw138_6), ((HB.out.cell (World.block_lt_of_cell? w _ hw138_7)).trans hw138_7), ((HB.out.cell (World.block_lt_of_cell? w _ hw138_8)).trans hw138_8)⟩ (fun hHeld => ?_); refine with_tabW signalbenchlaw46_EvindexNext.tab7 signalbenchlaw46_EvindexNext.bits7 (fun HT_ HW_ => ?_)
          generalize wr.drew = w14 at BK135 HB hx137_0 hx137_1 hx137_2 hx137_3 hx137_4 hx137_5 hx137_6 hx137_7 hx137_8 hx138_0 hx138_1 hx138_2 hx138_3 hx138_4 hx138_5 hx138_6 hx138_7 hx138_8 hHeld ⊢
          refine pu 0 18 (bsq 1 24) ?_
          refine pu 1 19 (bsq 2 23) ?_
          refine tk 2 20 (bsq 3 22) hHeld ?_ (he := by rintro w' ⟨s0, s1, s2, s3, s4, s5, s6, s7, s8, s9, s10, s11, s12, s13, s14, s15, s16, s17, s18, s19, s20⟩; go_simp; with_reducible rfl)
          refine pu 3 21 (bsq 4 21) ?_
          refine pu 4 22 (bsq 5 20) ?_
          refine pu 5 23 (bsq 6 19) ?_
          refine pu 6 24 (bsq 7 18) ?_
          refine pu 7 25 (bsq 8 17) ?_
          refine pu 8 26 (bsq 9 16) ?_
          refine pu 10 28 (bls [9, 1, 1, 14]) ?_
          refine tk 9 27 (bsq 11 14) hHeld ?_ (he := by rintro w' ⟨s0, s1, s2, s3, s4, s5, s6, s7, s8, s9, s10, s11, s12, s13, s14, s15, s16, s17, s18, s19, s20⟩; go_simp; with_reducible rfl)
          refine tk 11 29 (bsq 12 13) hHeld ?_ (he := by rintro w' ⟨s0, s1, s2, s3, s4, s5, s6, s7, s8, s9, s10, s11, s12, s13, s14, s15, s16, s17, s18, s19, s20⟩; go_simp; with_reducible rfl)
          refine pu 12 30 (bsq 13 12) ?_
          refine pu 13 31 (bsq 14 11) ?_
          refine pu 14 32 (bsq 15 10) ?_
          refine pu 15 33 (bsq 16 9) ?_
          refine pu 16 34 (bsq 17 8) ?_
          refine pu 17 35 (bsq 18 7) ?_
          refine pu 18 36 (bsq 19 6) ?_
          refine pu 19 37 (bsq 20 5) ?_
          refine pu 21 39 (bls [20, 1, 1, 3]) ?_
          refine tk 20 38 (bsq 22 3) hHeld ?_ (he := by rintro w' ⟨s0, s1, s2, s3, s4, s5, s6, s7, s8, s9, s10, s11, s12, s13, s14, s15, s16, s17, s18, s19, s20⟩; go_simp; with_reducible rfl)
          refine tk 22 40 (bsq 23 2) hHeld ?_ (he := by rintro w' ⟨s0, s1, s2, s3, s4, s5, s6, s7, s8, s9, s10, s11, s12, s13, s14, s15, s16, s17, s18, s19, s20⟩; go_simp; with_reducible rfl)
          refine pu 23 41 (bsq 24 1) ?_
          refine pu 24 42 (bsq 25 0) ?_
          refine done_ (done_of HT_.out (by kernel_rfl)) ?_
          try go_wp2
          go_roundg k1
          case measure => have := HK1.out; omega
          case rel => exact ⟨(x6_1), (wrap64 (x6_1 - 1)), (by first | rfl | (simp; done) | (simp [*]; done)), (by first | rfl | (simp; done) | (simp [*]; done)), H', ⟨by have := HK1.out; omega⟩, ⟨bg BK135.out⟩, ⟨bs HB.out⟩⟩
         ·
          rw [if_neg c13] at H
          have c13b0 : (((rd_T47 l0 x6_1).f2.f0) == a1_1) = false := beq_eq_false_iff_ne.mpr c13
          have c13b1 : (((rd_T47 l0 x6_1).f2.f0) != a1_1) = true := bne_iff_ne.mpr c13
          have H' := Aside0.mk H
          clear H
          try go_wp2
          have n0_ := Aside0.mk (blk_drew BK135.out)
          have n1_ := Aside0.mk (below_drew1 HB.out)
          clear BK135
          clear HB
          have BK135 := n0_
          have HB := n1_
          clear n0_ n1_
          have p137 : 0 ≤ (x6_1 : Int) := of_decide_eq_true (by first | (with_reducible assumption) | assumption)
          have q137 : x6_1 < (l0.length : Int) := of_decide_eq_true (by first | (with_reducible assumption) | assumption)
          obtain ⟨ad137, e137, hx137_0, hx137_1, hx137_2, hx137_3, hx137_4, hx137_5, hx137_6, hx137_7, hx137_8⟩ := at_T47 HR0.out x6_1 p137 q137
          have hw137_8 := hx137_8
          have hw137_7 := hx137_7
          have hw137_6 := hx137_6
          have hw137_5 := hx137_5
          have hw137_4 := hx137_4
          have hw137_3 := hx137_3
          have hw137_2 := hx137_2
          have hw137_1 := hx137_1
          have hw137_0 := hx137_0
          cases e137
          replace hx137_0 := pw_cell_below HB.out hx137_0
          replace hx137_1 := pw_cell_below HB.out hx137_1
          replace hx137_2 := pw_cell_below HB.out hx137_2
          replace hx137_3 := pw_cell_below HB.out hx137_3
          replace hx137_4 := pw_cell_below HB.out hx137_4
          replace hx137_5 := pw_cell_below HB.out hx137_5
          replace hx137_6 := pw_cell_below HB.out hx137_6
          replace hx137_7 := pw_cell_below HB.out hx137_7
          replace hx137_8 := pw_cell_below HB.out hx137_8
          replace p137 := eq_true p137
          replace q137 := eq_true q137
          have p138 : 0 ≤ (x6_1 : Int) := of_decide_eq_true (by first | (with_reducible assumption) | assumption)
          have q138 : x6_1 < (l0.length : Int) := of_decide_eq_true (by first | (with_reducible assumption) | assumption)
          obtain ⟨ad138, e138, hx138_0, hx138_1, hx138_2, hx138_3, hx138_4, hx138_5, hx138_6, hx138_7, hx138_8⟩ := at_T47 HR0.out x6_1 p138 q138
          have hw138_8 := hx138_8
          have hw138_7 := hx138_7
          have hw138_6 := hx138_6
          have hw138_5 := hx138_5
          have hw138_4 := hx138_4
          have hw138_3 := hx138_3
          have hw138_2 := hx138_2
          have hw138_1 := hx138_1
          have hw138_0 := hx138_0
          obtain rfl : ad137 = ad138 := (by injection e138)
          replace hx138_0 := pw_cell_below HB.out hx138_0
          replace hx138_1 := pw_cell_below HB.out hx138_1
          replace hx138_2 := pw_cell_below HB.out hx138_2
          replace hx138_3 := pw_cell_below HB.out hx138_3
          replace hx138_4 := pw_cell_below HB.out hx138_4
          replace hx138_5 := pw_cell_below HB.out hx138_5
          replace hx138_6 := pw_cell_below HB.out hx138_6
          replace hx138_7 := pw_cell_below HB.out hx138_7
          replace hx138_8 := pw_cell_below HB.out hx138_8
          replace p138 := eq_true p138
          replace q138 := eq_true q138
          refine start_ (n := 25) (S := fun w' => w'.cell? ⟨gb135, 0, none⟩ = some (.int .i64 a1_0) ∧ w'.cell? ⟨gb135, 1, none⟩ = some (.int .i64 a1_1) ∧ w'.cell? ⟨gb135, 2, none⟩ = some (.int .i64 a1_2) ∧ w'.cell? (ad137.add ((x6_1).toNat * 9)) = some (.int .i64 ((rd_T47 l0 x6_1).f0)) ∧ w'.cell? ⟨(ad137.add ((x6_1).toNat * 9)).block, (ad137.add ((x6_1).toNat * 9)).off + 1, none⟩ = some (.int .i64 ((rd_T47 l0 x6_1).f1)) ∧ w'.cell? ⟨(ad137.add ((x6_1).toNat * 9)).block, (ad137.add ((x6_1).toNat * 9)).off + 2, none⟩ = some (.int .i64 ((rd_T47 l0 x6_1).f2.f0)) ∧ w'.cell? ⟨(ad137.add ((x6_1).toNat * 9)).block, (ad137.add ((x6_1).toNat * 9)).off + 3, none⟩ = some (.int .i64 ((rd_T47 l0 x6_1).f2.f1)) ∧ w'.cell? ⟨(ad137.add ((x6_1).toNat * 9)).block, (ad137.add ((x6_1).toNat * 9)).off + 4, none⟩ = some (.int .i64 ((rd_T47 l0 x6_1).f2.f2)) ∧ w'.cell? ⟨(ad137.add ((x6_1).toNat * 9)).block, (ad137.add ((x6_1).toNat * 9)).off + 5, none⟩ = some (.int .i64 ((rd_T47 l0 x6_1).f2.f3)) ∧ w'.cell? ⟨(ad137.add ((x6_1).toNat * 9)).block, (ad137.add ((x6_1).toNat * 9)).off + 6, none⟩ = some (.int .i64 ((rd_T47 l0 x6_1).f2.f4)) ∧ w'.cell? ⟨(ad137.add ((x6_1).toNat * 9)).block, (ad137.add ((x6_1).toNat * 9)).off + 7, none⟩ = some (.string ((rd_T47 l0 x6_1).f2.f5)) ∧ w'.cell? ⟨(ad137.add ((x6_1).toNat * 9)).block, (ad137.add ((x6_1).toNat * 9)).off + 8, none⟩ = some (.int .i64 ((rd_T47 l0 x6_1).f2.f6)) ∧ w'.cell? (ad137.add ((x6_1).toNat * 9)) = some (.int .i64 ((rd_T47 l0 x6_1).f0)) ∧ w'.cell? ⟨(ad137.add ((x6_1).toNat * 9)).block, (ad137.add ((x6_1).toNat * 9)).off + 1, none⟩ = some (.int .i64 ((rd_T47 l0 x6_1).f1)) ∧ w'.cell? ⟨(ad137.add ((x6_1).toNat * 9)).block, (ad137.add ((x6_1).toNat * 9)).off + 2, none⟩ = some (.int .i64 ((rd_T47 l0 x6_1).f2.f0)) ∧ w'.cell? ⟨(ad137.add ((x6_1).toNat * 9)).block, (ad137.add ((x6_1).toNat * 9)).off + 3, none⟩ = some (.int .i64 ((rd_T47 l0 x6_1).f2.f1)) ∧ w'.cell? ⟨(ad137.add ((x6_1).toNat * 9)).block, (ad137.add ((x6_1).toNat * 9)).off + 4, none⟩ = some (.int .i64 ((rd_T47 l0 x6_1).f2.f2)) ∧ w'.cell? ⟨(ad137.add ((x6_1).toNat * 9)).block, (ad137.add ((x6_1).toNat * 9)).off + 5, none⟩ = some (.int .i64 ((rd_T47 l0 x6_1).f2.f3)) ∧ w'.cell? ⟨(ad137.add ((x6_1).toNat * 9)).block, (ad137.add ((x6_1).toNat * 9)).off + 6, none⟩ = some (.int .i64 ((rd_T47 l0 x6_1).f2.f4)) ∧ w'.cell? ⟨(ad137.add ((x6_1).toNat * 9)).block, (ad137.add ((x6_1).toNat * 9)).off + 7, none⟩ = some (.string ((rd_T47 l0 x6_1).f2.f5)) ∧ w'.cell? ⟨(ad137.add ((x6_1).toNat * 9)).block, (ad137.add ((x6_1).toNat * 9)).off + 8, none⟩ = some (.int .i64 ((rd_T47 l0 x6_1).f2.f6))) (ds := []) (bsq 0 25) (by kernel_rfl) rfl rfl ⟨(blk_cell BK135.out 0).trans rfl, (blk_cell BK135.out 1).trans rfl, (blk_cell BK135.out 2).trans rfl, ((HB.out.cell (World.block_lt_of_cell? w _ hw137_0)).trans hw137_0), ((HB.out.cell (World.block_lt_of_cell? w _ hw137_1)).trans hw137_1), ((HB.out.cell (World.block_lt_of_cell? w _ hw137_2)).trans hw137_2), ((HB.out.cell (World.block_lt_of_cell? w _ hw137_3)).trans hw137_3), ((HB.out.cell (World.block_lt_of_cell? w _ hw137_4)).trans hw137_4), ((HB.out.cell (World.block_lt_of_cell? w _ hw137_5)).trans hw137_5), ((HB.out.cell (World.block_lt_of_cell? w _ hw137_6)).trans hw137_6), ((HB.out.cell (World.block_lt_of_cell? w _ hw137_7)).trans hw137_7), ((HB.out.cell (World.block_lt_of_cell? w _ hw137_8)).trans hw137_8), ((HB.out.cell (World.block_lt_of_cell? w _ hw138_0)).trans hw138_0), ((HB.out.cell (World.block_lt_of_cell? w _ hw138_1)).trans hw138_1), ((HB.out.cell (World.block_lt_of_cell? w _ hw138_2)).trans hw138_2), ((HB.out.cell (World.block_lt_of_cell? w _ hw138_3)).trans hw138_3), ((HB.out.cell (World.block_lt_of_cell? w _ hw138_4)).trans hw138_4), ((HB.out.cell (World.block_lt_of_cell? w _ hw138_5)).trans hw138_5), ((HB.out.cell (World.block_lt_of_cell? w _ hw138_6)).trans hw138_6), ((HB.out.cell (World.block_lt_of_cell? w _ hw138_7)).trans hw138_7), ((HB.out.cell (World.block_lt_of_cell? w _ hw138_8)).trans hw138_8)⟩ (fun hHeld => ?_); refine with_tabW signalbenchlaw46_EvindexNext.tab7 signalbenchlaw46_EvindexNext.bits7 (fun HT_ HW_ => ?_)
          generalize wr.drew = w15 at BK135 HB hx137_0 hx137_1 hx137_2 hx137_3 hx137_4 hx137_5 hx137_6 hx137_7 hx137_8 hx138_0 hx138_1 hx138_2 hx138_3 hx138_4 hx138_5 hx138_6 hx138_7 hx138_8 hHeld ⊢
          refine pu 0 18 (bsq 1 24) ?_
          refine pu 1 19 (bsq 2 23) ?_
          refine tk 2 20 (bsq 3 22) hHeld ?_ (he := by rintro w' ⟨s0, s1, s2, s3, s4, s5, s6, s7, s8, s9, s10, s11, s12, s13, s14, s15, s16, s17, s18, s19, s20⟩; go_simp; with_reducible rfl)
          refine pu 3 21 (bsq 4 21) ?_
          refine pu 4 22 (bsq 5 20) ?_
          refine pu 5 23 (bsq 6 19) ?_
          refine pu 6 24 (bsq 7 18) ?_
          refine pu 7 25 (bsq 8 17) ?_
          refine pu 8 26 (bsq 9 16) ?_
          refine pu 10 28 (bls [9, 1, 1, 14]) ?_
          refine tk 9 27 (bsq 11 14) hHeld ?_ (he := by rintro w' ⟨s0, s1, s2, s3, s4, s5, s6, s7, s8, s9, s10, s11, s12, s13, s14, s15, s16, s17, s18, s19, s20⟩; go_simp; with_reducible rfl)
          refine tk 11 29 (bsq 12 13) hHeld ?_ (he := by rintro w' ⟨s0, s1, s2, s3, s4, s5, s6, s7, s8, s9, s10, s11, s12, s13, s14, s15, s16, s17, s18, s19, s20⟩; go_simp; with_reducible rfl)
          refine pu 12 30 (bsq 13 12) ?_
          refine pu 13 31 (bsq 14 11) ?_
          refine pu 14 32 (bsq 15 10) ?_
          refine pu 15 33 (bsq 16 9) ?_
          refine pu 16 34 (bsq 17 8) ?_
          refine pu 17 35 (bsq 18 7) ?_
          refine pu 18 36 (bsq 19 6) ?_
          refine pu 19 37 (bsq 20 5) ?_
          refine pu 21 39 (bls [20, 1, 1, 3]) ?_
          refine tk 20 38 (bsq 22 3) hHeld ?_ (he := by rintro w' ⟨s0, s1, s2, s3, s4, s5, s6, s7, s8, s9, s10, s11, s12, s13, s14, s15, s16, s17, s18, s19, s20⟩; go_simp; with_reducible rfl)
          refine tk 22 40 (bsq 23 2) hHeld ?_ (he := by rintro w' ⟨s0, s1, s2, s3, s4, s5, s6, s7, s8, s9, s10, s11, s12, s13, s14, s15, s16, s17, s18, s19, s20⟩; go_simp; with_reducible rfl)
          refine pu 23 41 (bsq 24 1) ?_
          refine pu 24 42 (bsq 25 0) ?_
          refine done_ (done_of HT_.out (by kernel_rfl)) ?_
          try go_wp2
          go_roundg k1
          case measure => have := HK1.out; omega
          case rel => exact ⟨(x5_1), (wrap64 (x6_1 - 1)), (by first | rfl | (simp; done) | (simp [*]; done)), (by first | rfl | (simp; done) | (simp [*]; done)), H', ⟨by have := HK1.out; omega⟩, ⟨bg BK135.out⟩, ⟨bs HB.out⟩⟩
        ·
         rw [if_neg c12] at H
         have c12b0 : (((rd_T47 l0 x6_1).f0) == a1_0) = false := beq_eq_false_iff_ne.mpr c12
         have c12b1 : (((rd_T47 l0 x6_1).f0) != a1_0) = true := bne_iff_ne.mpr c12
         have H' := Aside0.mk H
         clear H
         try go_wp2
         have n0_ := Aside0.mk (blk_drew BK135.out)
         have n1_ := Aside0.mk (below_drew1 HB.out)
         clear BK135
         clear HB
         have BK135 := n0_
         have HB := n1_
         clear n0_ n1_
         have p137 : 0 ≤ (x6_1 : Int) := of_decide_eq_true (by first | (with_reducible assumption) | assumption)
         have q137 : x6_1 < (l0.length : Int) := of_decide_eq_true (by first | (with_reducible assumption) | assumption)
         obtain ⟨ad137, e137, hx137_0, hx137_1, hx137_2, hx137_3, hx137_4, hx137_5, hx137_6, hx137_7, hx137_8⟩ := at_T47 HR0.out x6_1 p137 q137
         have hw137_8 := hx137_8
         have hw137_7 := hx137_7
         have hw137_6 := hx137_6
         have hw137_5 := hx137_5
         have hw137_4 := hx137_4
         have hw137_3 := hx137_3
         have hw137_2 := hx137_2
         have hw137_1 := hx137_1
         have hw137_0 := hx137_0
         cases e137
         replace hx137_0 := pw_cell_below HB.out hx137_0
         replace hx137_1 := pw_cell_below HB.out hx137_1
         replace hx137_2 := pw_cell_below HB.out hx137_2
         replace hx137_3 := pw_cell_below HB.out hx137_3
         replace hx137_4 := pw_cell_below HB.out hx137_4
         replace hx137_5 := pw_cell_below HB.out hx137_5
         replace hx137_6 := pw_cell_below HB.out hx137_6
         replace hx137_7 := pw_cell_below HB.out hx137_7
         replace hx137_8 := pw_cell_below HB.out hx137_8
         replace p137 := eq_true p137
         replace q137 := eq_true q137
         refine start_ (n := 25) (S := fun w' => w'.cell? ⟨gb135, 0, none⟩ = some (.int .i64 a1_0) ∧ w'.cell? ⟨gb135, 1, none⟩ = some (.int .i64 a1_1) ∧ w'.cell? ⟨gb135, 2, none⟩ = some (.int .i64 a1_2) ∧ w'.cell? (ad137.add ((x6_1).toNat * 9)) = some (.int .i64 ((rd_T47 l0 x6_1).f0)) ∧ w'.cell? ⟨(ad137.add ((x6_1).toNat * 9)).block, (ad137.add ((x6_1).toNat * 9)).off + 1, none⟩ = some (.int .i64 ((rd_T47 l0 x6_1).f1)) ∧ w'.cell? ⟨(ad137.add ((x6_1).toNat * 9)).block, (ad137.add ((x6_1).toNat * 9)).off + 2, none⟩ = some (.int .i64 ((rd_T47 l0 x6_1).f2.f0)) ∧ w'.cell? ⟨(ad137.add ((x6_1).toNat * 9)).block, (ad137.add ((x6_1).toNat * 9)).off + 3, none⟩ = some (.int .i64 ((rd_T47 l0 x6_1).f2.f1)) ∧ w'.cell? ⟨(ad137.add ((x6_1).toNat * 9)).block, (ad137.add ((x6_1).toNat * 9)).off + 4, none⟩ = some (.int .i64 ((rd_T47 l0 x6_1).f2.f2)) ∧ w'.cell? ⟨(ad137.add ((x6_1).toNat * 9)).block, (ad137.add ((x6_1).toNat * 9)).off + 5, none⟩ = some (.int .i64 ((rd_T47 l0 x6_1).f2.f3)) ∧ w'.cell? ⟨(ad137.add ((x6_1).toNat * 9)).block, (ad137.add ((x6_1).toNat * 9)).off + 6, none⟩ = some (.int .i64 ((rd_T47 l0 x6_1).f2.f4)) ∧ w'.cell? ⟨(ad137.add ((x6_1).toNat * 9)).block, (ad137.add ((x6_1).toNat * 9)).off + 7, none⟩ = some (.string ((rd_T47 l0 x6_1).f2.f5)) ∧ w'.cell? ⟨(ad137.add ((x6_1).toNat * 9)).block, (ad137.add ((x6_1).toNat * 9)).off + 8, none⟩ = some (.int .i64 ((rd_T47 l0 x6_1).f2.f6))) (ds := []) (bsq 0 25) (by kernel_rfl) rfl rfl ⟨(blk_cell BK135.out 0).trans rfl, (blk_cell BK135.out 1).trans rfl, (blk_cell BK135.out 2).trans rfl, ((HB.out.cell (World.block_lt_of_cell? w _ hw137_0)).trans hw137_0), ((HB.out.cell (World.block_lt_of_cell? w _ hw137_1)).trans hw137_1), ((HB.out.cell (World.block_lt_of_cell? w _ hw137_2)).trans hw137_2), ((HB.out.cell (World.block_lt_of_cell? w _ hw137_3)).trans hw137_3), ((HB.out.cell (World.block_lt_of_cell? w _ hw137_4)).trans hw137_4), ((HB.out.cell (World.block_lt_of_cell? w _ hw137_5)).trans hw137_5), ((HB.out.cell (World.block_lt_of_cell? w _ hw137_6)).trans hw137_6), ((HB.out.cell (World.block_lt_of_cell? w _ hw137_7)).trans hw137_7), ((HB.out.cell (World.block_lt_of_cell? w _ hw137_8)).trans hw137_8)⟩ (fun hHeld => ?_); refine with_tabW signalbenchlaw46_EvindexNext.tab7 signalbenchlaw46_EvindexNext.bits7 (fun HT_ HW_ => ?_)
         generalize wr.drew = w16 at BK135 HB hx137_0 hx137_1 hx137_2 hx137_3 hx137_4 hx137_5 hx137_6 hx137_7 hx137_8 hHeld ⊢
         refine pu 0 18 (bsq 1 24) ?_
         refine pu 1 19 (bsq 2 23) ?_
         refine tk 2 20 (bsq 3 22) hHeld ?_ (he := by rintro w' ⟨s0, s1, s2, s3, s4, s5, s6, s7, s8, s9, s10, s11⟩; go_simp; with_reducible rfl)
         refine pu 3 21 (bsq 4 21) ?_
         refine pu 4 22 (bsq 5 20) ?_
         refine pu 5 23 (bsq 6 19) ?_
         refine pu 6 24 (bsq 7 18) ?_
         refine pu 7 25 (bsq 8 17) ?_
         refine pu 8 26 (bsq 9 16) ?_
         refine pu 10 28 (bls [9, 1, 1, 14]) ?_
         refine tk 9 27 (bsq 11 14) hHeld ?_ (he := by rintro w' ⟨s0, s1, s2, s3, s4, s5, s6, s7, s8, s9, s10, s11⟩; go_simp; with_reducible rfl)
         refine tk 11 29 (bsq 12 13) hHeld ?_ (he := by rintro w' ⟨s0, s1, s2, s3, s4, s5, s6, s7, s8, s9, s10, s11⟩; go_simp; with_reducible rfl)
         refine pu 12 30 (bsq 13 12) ?_
         refine pu 13 31 (bsq 14 11) ?_
         refine pu 14 32 (bsq 15 10) ?_
         refine un 15 33 (bsq 16 9) ?_
         refine un 16 34 (bsq 17 8) ?_
         refine un 17 35 (bsq 18 7) ?_
         refine un 18 36 (bsq 19 6) ?_
         refine un 19 37 (bsq 20 5) ?_
         refine un 20 38 (bsq 21 4) ?_
         refine un 21 39 (bsq 22 3) ?_
         refine un 22 40 (bsq 23 2) ?_
         refine un 23 41 (bsq 24 1) ?_
         refine pu 24 42 (bsq 25 0) ?_
         refine done_ (done_of HT_.out (by kernel_rfl)) ?_
         try go_wp2
         go_roundg k1
         case measure => have := HK1.out; omega
         case rel => exact ⟨(x5_1), (wrap64 (x6_1 - 1)), (by first | rfl | (simp; done) | (simp [*]; done)), (by first | rfl | (simp; done) | (simp [*]; done)), H', ⟨by have := HK1.out; omega⟩, ⟨bg BK135.out⟩, ⟨bs HB.out⟩⟩
       ·
        rw [if_neg c11] at H
        exact absurd H (by simp)
      ·
       rw [if_neg c10] at H
       exact absurd H (by simp)
     ·
      rw [if_neg c9] at H
      have c9b0 : decide (a1_2 ≤ x6_1) = false := decide_eq_false c9
      clear c9
      have H' := Aside0.mk H
      clear H
      try go_wp2
      have n0_ := Aside0.mk (blk_drew BK135.out)
      have n1_ := Aside0.mk (below_drew1 HB.out)
      clear BK135
      clear HB
      have BK135 := n0_
      have HB := n1_
      clear n0_ n1_
      refine start_ (n := 25) (S := fun w' => w'.cell? ⟨gb135, 0, none⟩ = some (.int .i64 a1_0) ∧ w'.cell? ⟨gb135, 1, none⟩ = some (.int .i64 a1_1) ∧ w'.cell? ⟨gb135, 2, none⟩ = some (.int .i64 a1_2)) (ds := []) (bsq 0 25) (by kernel_rfl) rfl rfl ⟨(blk_cell BK135.out 0).trans rfl, (blk_cell BK135.out 1).trans rfl, (blk_cell BK135.out 2).trans rfl⟩ (fun hHeld => ?_); refine with_tabW signalbenchlaw46_EvindexNext.tab7 signalbenchlaw46_EvindexNext.bits7 (fun HT_ HW_ => ?_)
      generalize wr.drew = w17 at BK135 HB hHeld ⊢
      refine pu 0 18 (bsq 1 24) ?_
      refine pu 1 19 (bsq 2 23) ?_
      refine tk 2 20 (bsq 3 22) hHeld ?_ (he := by rintro w' ⟨s0, s1, s2⟩; go_simp; with_reducible rfl)
      refine pu 3 21 (bsq 4 21) ?_
      refine pu 4 22 (bsq 5 20) ?_
      refine un 5 23 (bsq 6 19) ?_
      refine un 6 24 (bsq 7 18) ?_
      refine un 7 25 (bsq 8 17) ?_
      refine un 8 26 (bsq 9 16) ?_
      refine un 9 27 (bsq 10 15) ?_
      refine un 10 28 (bsq 11 14) ?_
      refine un 11 29 (bsq 12 13) ?_
      refine un 12 30 (bsq 13 12) ?_
      refine pu 13 31 (bsq 14 11) ?_
      refine pu 14 32 (bsq 15 10) ?_
      refine un 15 33 (bsq 16 9) ?_
      refine un 16 34 (bsq 17 8) ?_
      refine un 17 35 (bsq 18 7) ?_
      refine un 18 36 (bsq 19 6) ?_
      refine un 19 37 (bsq 20 5) ?_
      refine un 20 38 (bsq 21 4) ?_
      refine un 21 39 (bsq 22 3) ?_
      refine un 22 40 (bsq 23 2) ?_
      refine un 23 41 (bsq 24 1) ?_
      refine pu 24 42 (bsq 25 0) ?_
      refine done_ (done_of HT_.out (by kernel_rfl)) ?_
      try go_wp2
      go_roundg k1
      case measure => have := HK1.out; omega
      case rel => exact ⟨(x5_1), (wrap64 (x6_1 - 1)), (by first | rfl | (simp; done) | (simp [*]; done)), (by first | rfl | (simp; done) | (simp [*]; done)), H', ⟨by have := HK1.out; omega⟩, ⟨bg BK135.out⟩, ⟨bs HB.out⟩⟩
    ·
     rw [if_neg c8] at H
     have c8b0 : decide (0 ≤ x6_1) = false := decide_eq_false c8
     clear c8
     replace H := Option.bind_eq_some_iff.mp H
     obtain ⟨⟨t139, t140⟩, A180, H⟩ := H
     replace H : ((evindex_Next.f k1 t139 t140 a1_0 a1_1 a1_2).bind fun t143 => (if t143 = x5_1 then ((signalbenchlaw46_awake.f k1).bind fun t144 => (some t144)) else (some false))) = some r := H
     have A18 := Aside0.mk A180
     clear A180
     replace H := Option.bind_eq_some_iff.mp H
     obtain ⟨t143, A190, H⟩ := H
     replace H : (if t143 = x5_1 then ((signalbenchlaw46_awake.f k1).bind fun t144 => (some t144)) else (some false)) = some r := H
     have A19 := Aside0.mk A190
     clear A190
     by_cases c20 : t143 = x5_1
     ·
      rw [if_pos c20] at H
      have c20b0 : (t143 == x5_1) = true := beq_iff_eq.mpr c20
      have c20b1 : (t143 != x5_1) = false := bne_eq_false_iff_eq.mpr c20
      clear c20
      replace H := Option.bind_eq_some_iff.mp H
      obtain ⟨t144, A210, H⟩ := H
      replace H : (some t144) = some r := H
      have A21 := Aside0.mk A210
      clear A210
      obtain rfl := Option.some.inj H
      try go_wp2
      have n0_ := Aside0.mk (blk_drew BK135.out)
      have n1_ := Aside0.mk (below_drew1 HB.out)
      clear BK135
      clear HB
      have BK135 := n0_
      have HB := n1_
      clear n0_ n1_
      refine start_ (n := 15) (S := fun w' => w'.cell? ⟨gb135, 0, none⟩ = some (.int .i64 a1_0) ∧ w'.cell? ⟨gb135, 1, none⟩ = some (.int .i64 a1_1) ∧ w'.cell? ⟨gb135, 2, none⟩ = some (.int .i64 a1_2)) (ds := []) (bsq 0 15) (by kernel_rfl) rfl rfl ⟨(blk_cell BK135.out 0).trans rfl, (blk_cell BK135.out 1).trans rfl, (blk_cell BK135.out 2).trans rfl⟩ (fun hHeld => ?_); refine with_tabW signalbenchlaw46_EvindexNext.tab9 signalbenchlaw46_EvindexNext.bits9 (fun HT_ HW_ => ?_)
      generalize wr.drew = w22 at BK135 HB hHeld ⊢
      refine pu 0 44 (bsq 1 14) ?_
      refine pu 2 46 (bls [1, 1, 1, 12]) ?_
      refine pu 4 48 (bls [1, 1, 1, 1, 1, 10]) ?_
      refine pu 6 50 (bls [1, 1, 1, 1, 1, 1, 1, 8]) ?_
      refine pu 9 53 (bls [1, 1, 1, 1, 1, 1, 1, 2, 1, 5]) ?_
      refine tk 3 47 (bls [1, 1, 3, 1, 1, 2, 1, 5]) hHeld ?_ (he := by rintro w' ⟨s0, s1, s2⟩; go_simp; with_reducible rfl)
      refine tk 5 49 (bls [1, 1, 5, 2, 1, 5]) hHeld ?_ (he := by rintro w' ⟨s0, s1, s2⟩; go_simp; with_reducible rfl)
      refine tk 7 51 (bls [1, 1, 6, 1, 1, 5]) hHeld ?_ (he := by rintro w' ⟨s0, s1, s2⟩; go_simp; with_reducible rfl)
      refine one_ (i := 1) (N := some 45) #[true, true, true, true, true, true, true, true, false, true, false, false, false, false, false] rfl rfl (one_of HT_.out (by kernel_rfl)) (by decide) (fun K hK => ?_)
      refine goes_ Try.func11 (by kernel_rfl) rfl #[.slice A0 l0.length c0] (by rfl) rfl rfl (by (try simp only [List.map_toArray, List.map_cons, List.map_nil]); first | done | rfl | (simp only [List.length_drop, List.length_take]; rfl)) ?_
      with_reducible refine (evindex_Build.calls _ _ l0 t139 t140 _ ?side1 ?side2 A18.out).mono ?_
      (case side1 => repeat (first | exact (Kd.C_below HR0.out HB.out) | (with_reducible refine Kd.C_alloc ?_ _) | (with_reducible refine Kd.C_drewN ?_ _) | (with_reducible refine Kd.C_drew ?_)))
      (case side2 => exact HC0.out)
      rintro e w23 ⟨v141, rfl, ho0, hb⟩
      refine ⟨_, rfl, ?_⟩
      have n0_ := Aside0.mk (Kd.S_lower ho0 (below_size (bs HB.out)))
      have n1_ := Aside0.mk (blk_below (bg BK135.out) hb)
      have n2_ := Aside0.mk (below_step (bs HB.out) hb)
      clear BK135
      clear HB
      have HO142 := n0_
      have BK135 := n1_
      have HB := n2_
      clear n0_ n1_ n2_
      (try clear hb)
      (try clear hb2)
      (try clear hk)
      (try clear hi)
      (try clear ho0)
      obtain ⟨Ao24, co24, eo24⟩ := Kd.S_slice HO142.out
      (first | subst eo24 | (injection eo24 with f1_ f2_ f3_; have f4_ := f1_.symm; have f5_ := f3_.symm; clear f1_ f2_ f3_; subst f4_; subst f5_))
      refine hK.out _ _ ⟨(blk_cell BK135.out 0).trans rfl, (blk_cell BK135.out 1).trans rfl, (blk_cell BK135.out 2).trans rfl⟩ (fun hHeld => ?_)
      clear hK K
      refine norm_ (a' := ?_) ?_ ?_
      rotate_left
      ·
       show Act.put _ (some 45) _ = _
       simp only [Act.put, List.setIfInBounds_toArray, List.set_cons_zero, List.set_cons_succ, i64_w, i32_w]
       rfl
      refine one_ (i := 8) (N := some 52) (bsq 10 5) rfl rfl (one_of HT_.out (by kernel_rfl)) (by decide) (fun K hK => ?_)
      refine goes_ Try.func19 (by kernel_rfl) rfl #[.agg #[.int .i64 t139, .slice Ao24 t140.length co24], .int .i64 a1_0, .int .i64 a1_1, .int .i64 a1_2] (by rfl) rfl rfl (by (try simp only [List.map_toArray, List.map_cons, List.map_nil]); first | done | rfl | (simp only [List.length_drop, List.length_take]; rfl)) ?_
      with_reducible refine (evindex_Next.calls k1 t139 _ _ t140 a1_0 a1_1 a1_2 t143 _ ?side1 ?side2 A19.out).mono ?_
      (case side1 => repeat (first | exact (Kd.S_reads' HO142.out).2.2 | (with_reducible refine Kd.C_alloc ?_ _) | (with_reducible refine Kd.C_drewN ?_ _) | (with_reducible refine Kd.C_drew ?_)))
      (case side2 => exact (Kd.S_reads' HO142.out).2.1)
      rintro e w25 ⟨rfl, hb⟩
      refine ⟨_, rfl, ?_⟩
      have n0_ := Aside0.mk (Kd.S_below (by (with_reducible repeat (first | apply Kd.S_alloc | apply Kd.S_drewN | apply Kd.S_drew)); exact HO142.out) hb)
      have n1_ := Aside0.mk (blk_below (bg BK135.out) hb)
      have n2_ := Aside0.mk (below_step (bs HB.out) hb)
      clear HO142
      clear BK135
      clear HB
      have HO142 := n0_
      have BK135 := n1_
      have HB := n2_
      clear n0_ n1_ n2_
      (try clear hb)
      (try clear hb2)
      (try clear hk)
      (try clear hi)
      refine hK.out _ _ ⟨(blk_cell BK135.out 0).trans rfl, (blk_cell BK135.out 1).trans rfl, (blk_cell BK135.out 2).trans rfl⟩ (fun hHeld => ?_)
      clear hK K
      refine norm_ (a' := ?_) ?_ ?_
      rotate_left
      ·
       show Act.put _ (some 52) _ = _
       simp only [Act.put, List.setIfInBounds_toArray, List.set_cons_zero, List.set_cons_succ, i64_w, i32_w]
       rfl
      refine pu 10 54 (bsq 11 4) ?_
      refine pu 11 55 (bsq 12 3) ?_
      refine one_ (i := 12) (N := some 56) (bsq 13 2) rfl rfl (one_of HT_.out (by kernel_rfl)) (by decide) (fun K hK => ?_)
      refine goes_ Try.func9 (by kernel_rfl) rfl #[] (by rfl) rfl rfl (by (try simp only [List.map_toArray, List.map_cons, List.map_nil]); first | done | rfl | (simp only [List.length_drop, List.length_take]; rfl)) ?_
      with_reducible refine (signalbenchlaw46_awake.calls k1  t144 _ A21.out).mono ?_
      rintro e w26 ⟨rfl, hb⟩
      refine ⟨_, rfl, ?_⟩
      have n0_ := Aside0.mk (Kd.S_below (by (with_reducible repeat (first | apply Kd.S_alloc | apply Kd.S_drewN | apply Kd.S_drew)); exact HO142.out) hb)
      have n1_ := Aside0.mk (blk_below (bg BK135.out) hb)
      have n2_ := Aside0.mk (below_step (bs HB.out) hb)
      clear HO142
      clear BK135
      clear HB
      have HO142 := n0_
      have BK135 := n1_
      have HB := n2_
      clear n0_ n1_ n2_
      (try clear hb)
      (try clear hb2)
      (try clear hk)
      (try clear hi)
      refine hK.out _ _ ⟨(blk_cell BK135.out 0).trans rfl, (blk_cell BK135.out 1).trans rfl, (blk_cell BK135.out 2).trans rfl⟩ (fun hHeld => ?_)
      clear hK K
      refine norm_ (a' := ?_) ?_ ?_
      rotate_left
      ·
       show Act.put _ (some 56) _ = _
       simp only [Act.put, List.setIfInBounds_toArray, List.set_cons_zero, List.set_cons_succ, i64_w, i32_w]
       rfl
      refine pu 13 57 (bsq 14 1) ?_
      refine pu 14 4 (bsq 15 0) ?_
      refine done_ (done_of HT_.out (by kernel_rfl)) ?_
      try go_wp2
      go_ret
      exact ⟨by first | rfl | (simp [errW_none, errW_some] <;> rfl) | (simp [*, errW_none, errW_some] <;> rfl), bs HB.out⟩
     ·
      rw [if_neg c20] at H
      have c20b0 : (t143 == x5_1) = false := beq_eq_false_iff_ne.mpr c20
      have c20b1 : (t143 != x5_1) = true := bne_iff_ne.mpr c20
      obtain rfl := Option.some.inj H
      try go_wp2
      have n0_ := Aside0.mk (blk_drew BK135.out)
      have n1_ := Aside0.mk (below_drew1 HB.out)
      clear BK135
      clear HB
      have BK135 := n0_
      have HB := n1_
      clear n0_ n1_
      refine start_ (n := 15) (S := fun w' => w'.cell? ⟨gb135, 0, none⟩ = some (.int .i64 a1_0) ∧ w'.cell? ⟨gb135, 1, none⟩ = some (.int .i64 a1_1) ∧ w'.cell? ⟨gb135, 2, none⟩ = some (.int .i64 a1_2)) (ds := []) (bsq 0 15) (by kernel_rfl) rfl rfl ⟨(blk_cell BK135.out 0).trans rfl, (blk_cell BK135.out 1).trans rfl, (blk_cell BK135.out 2).trans rfl⟩ (fun hHeld => ?_); refine with_tabW signalbenchlaw46_EvindexNext.tab9 signalbenchlaw46_EvindexNext.bits9 (fun HT_ HW_ => ?_)
      generalize wr.drew = w27 at BK135 HB hHeld ⊢
      refine pu 0 44 (bsq 1 14) ?_
      refine pu 2 46 (bls [1, 1, 1, 12]) ?_
      refine pu 4 48 (bls [1, 1, 1, 1, 1, 10]) ?_
      refine pu 6 50 (bls [1, 1, 1, 1, 1, 1, 1, 8]) ?_
      refine pu 9 53 (bls [1, 1, 1, 1, 1, 1, 1, 2, 1, 5]) ?_
      refine tk 3 47 (bls [1, 1, 3, 1, 1, 2, 1, 5]) hHeld ?_ (he := by rintro w' ⟨s0, s1, s2⟩; go_simp; with_reducible rfl)
      refine tk 5 49 (bls [1, 1, 5, 2, 1, 5]) hHeld ?_ (he := by rintro w' ⟨s0, s1, s2⟩; go_simp; with_reducible rfl)
      refine tk 7 51 (bls [1, 1, 6, 1, 1, 5]) hHeld ?_ (he := by rintro w' ⟨s0, s1, s2⟩; go_simp; with_reducible rfl)
      refine one_ (i := 1) (N := some 45) #[true, true, true, true, true, true, true, true, false, true, false, false, false, false, false] rfl rfl (one_of HT_.out (by kernel_rfl)) (by decide) (fun K hK => ?_)
      refine goes_ Try.func11 (by kernel_rfl) rfl #[.slice A0 l0.length c0] (by rfl) rfl rfl (by (try simp only [List.map_toArray, List.map_cons, List.map_nil]); first | done | rfl | (simp only [List.length_drop, List.length_take]; rfl)) ?_
      with_reducible refine (evindex_Build.calls _ _ l0 t139 t140 _ ?side1 ?side2 A18.out).mono ?_
      (case side1 => repeat (first | exact (Kd.C_below HR0.out HB.out) | (with_reducible refine Kd.C_alloc ?_ _) | (with_reducible refine Kd.C_drewN ?_ _) | (with_reducible refine Kd.C_drew ?_)))
      (case side2 => exact HC0.out)
      rintro e w28 ⟨v141, rfl, ho0, hb⟩
      refine ⟨_, rfl, ?_⟩
      have n0_ := Aside0.mk (Kd.S_lower ho0 (below_size (bs HB.out)))
      have n1_ := Aside0.mk (blk_below (bg BK135.out) hb)
      have n2_ := Aside0.mk (below_step (bs HB.out) hb)
      clear BK135
      clear HB
      have HO142 := n0_
      have BK135 := n1_
      have HB := n2_
      clear n0_ n1_ n2_
      (try clear hb)
      (try clear hb2)
      (try clear hk)
      (try clear hi)
      (try clear ho0)
      obtain ⟨Ao29, co29, eo29⟩ := Kd.S_slice HO142.out
      (first | subst eo29 | (injection eo29 with f1_ f2_ f3_; have f4_ := f1_.symm; have f5_ := f3_.symm; clear f1_ f2_ f3_; subst f4_; subst f5_))
      refine hK.out _ _ ⟨(blk_cell BK135.out 0).trans rfl, (blk_cell BK135.out 1).trans rfl, (blk_cell BK135.out 2).trans rfl⟩ (fun hHeld => ?_)
      clear hK K
      refine norm_ (a' := ?_) ?_ ?_
      rotate_left
      ·
       show Act.put _ (some 45) _ = _
       simp only [Act.put, List.setIfInBounds_toArray, List.set_cons_zero, List.set_cons_succ, i64_w, i32_w]
       rfl
      refine one_ (i := 8) (N := some 52) (bsq 10 5) rfl rfl (one_of HT_.out (by kernel_rfl)) (by decide) (fun K hK => ?_)
      refine goes_ Try.func19 (by kernel_rfl) rfl #[.agg #[.int .i64 t139, .slice Ao29 t140.length co29], .int .i64 a1_0, .int .i64 a1_1, .int .i64 a1_2] (by rfl) rfl rfl (by (try simp only [List.map_toArray, List.map_cons, List.map_nil]); first | done | rfl | (simp only [List.length_drop, List.length_take]; rfl)) ?_
      with_reducible refine (evindex_Next.calls k1 t139 _ _ t140 a1_0 a1_1 a1_2 t143 _ ?side1 ?side2 A19.out).mono ?_
      (case side1 => repeat (first | exact (Kd.S_reads' HO142.out).2.2 | (with_reducible refine Kd.C_alloc ?_ _) | (with_reducible refine Kd.C_drewN ?_ _) | (with_reducible refine Kd.C_drew ?_)))
      (case side2 => exact (Kd.S_reads' HO142.out).2.1)
      rintro e w30 ⟨rfl, hb⟩
      refine ⟨_, rfl, ?_⟩
      have n0_ := Aside0.mk (Kd.S_below (by (with_reducible repeat (first | apply Kd.S_alloc | apply Kd.S_drewN | apply Kd.S_drew)); exact HO142.out) hb)
      have n1_ := Aside0.mk (blk_below (bg BK135.out) hb)
      have n2_ := Aside0.mk (below_step (bs HB.out) hb)
      clear HO142
      clear BK135
      clear HB
      have HO142 := n0_
      have BK135 := n1_
      have HB := n2_
      clear n0_ n1_ n2_
      (try clear hb)
      (try clear hb2)
      (try clear hk)
      (try clear hi)
      refine hK.out _ _ ⟨(blk_cell BK135.out 0).trans rfl, (blk_cell BK135.out 1).trans rfl, (blk_cell BK135.out 2).trans rfl⟩ (fun hHeld => ?_)
      clear hK K
      refine norm_ (a' := ?_) ?_ ?_
      rotate_left
      ·
       show Act.put _ (some 52) _ = _
       simp only [Act.put, List.setIfInBounds_toArray, List.set_cons_zero, List.set_cons_succ, i64_w, i32_w]
       rfl
      refine pu 10 54 (bsq 11 4) ?_
      refine pu 11 55 (bsq 12 3) ?_
      refine un 12 56 (bsq 13 2) ?_
      refine pu 13 57 (bsq 14 1) ?_
      refine pu 14 4 (bsq 15 0) ?_
      refine done_ (done_of HT_.out (by kernel_rfl)) ?_
      try go_wp2
      go_ret
      exact ⟨by first | rfl | (simp [errW_none, errW_some] <;> rfl) | (simp [*, errW_none, errW_some] <;> rfl), bs HB.out⟩

end Go.Proofs.Yteifekndhgkgcaa.H
