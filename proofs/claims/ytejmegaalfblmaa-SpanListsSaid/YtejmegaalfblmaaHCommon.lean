/- span.Common: the common ticks of two spans; no condition. -/
import Derived.Test.YtejmegaalfblmaaHLatest
import Derived.Test.YtejmegaalfblmaaH3
namespace Go.Proofs.Ytejmegaalfblmaa.H
open Go.RowKit Go.Proofs.YtejmegaalfblmaaW.PrintWords Go.Proofs.YtejmegaalfblmaaW.PrintLast Go.Proofs.YtejmegaalfblmaaW.PrintMore
attribute [local go_sem] max2_int min2_int max_two min_two max_three min_three max_four min_four
set_option linter.unusedVariables false
set_option linter.unusedSimpArgs false
def vld (a b : Int) : Bool := decide (0 ≤ a) && (decide (a < b) && decide (b ≤ 1099511627776))
def span_Common.f (a0_0 a0_1 a1_0 a1_1 : Int) : Option (Int × Int × Bool) :=
  if (vld a0_0 a0_1 && (vld a1_0 a1_1 && vld (mx a0_0 a1_0) (mn a0_1 a1_1))) = true then some (mx a0_0 a1_0, mn a0_1 a1_1, true) else some (0, 0, false)
theorem valid_f (a b : Int) : span_Valid.f a b = some (vld a b) := by
  unfold span_Valid.f vld
  by_cases h1 : 0 ≤ a
  · by_cases h2 : a < b <;> simp [h1, h2]
  · simp [h1]
theorem latest_one (k : Nat) (a b : Int) : span_latest.f (k + 2) a [b] = some (mx a b) := by
  have e : wrap64 (0 + 1) = 1 := by unfold wrap64; omega
  unfold span_latest.f
  rw [span_latest.l0, if_pos (by simp), if_pos (by omega), if_pos (by simp), e, span_latest.l0, if_neg (by simp)]
  rfl
theorem earliest_one (k : Nat) (a b : Int) : span_earliest.f (k + 2) a [b] = some (mn a b) := by
  have e : wrap64 (0 + 1) = 1 := by unfold wrap64; omega
  unfold span_earliest.f
  rw [span_earliest.l0, if_pos (by simp), if_pos (by omega), if_pos (by simp), e, span_earliest.l0, if_neg (by simp)]
  rfl
def span_Common.T1 : Bool × List (List Nat × List Nat) := (true, [([], []), ([0], [0]), ([], []), ([2], [2]), ([3], [3]), ([1, 4], [1, 4]), ([], []), ([6], [6]), ([], []), ([8], [8]), ([9], [9]), ([7, 10, 5], [7, 10]), ([5, 11], [5, 11]), ([], []), ([13, 12, 11, 0, 1, 2, 3, 4, 5, 6, 7, 8, 9, 10, 11, 12, 13], [12, 13])])
def span_Common.B1 : List Nat := [0, 1, 0, 4, 12, 31, 0, 64, 0, 256, 768, 2047, 4095, 0, 16383]
theorem span_Common.tab1 : rtab .any (opsOf Try.f15 1) = span_Common.T1 := by kernel_rfl
theorem span_Common.bits1 : waitsOk span_Common.T1.2 span_Common.B1 = true := by kernel_rfl
set_option maxHeartbeats 8000000 in
set_option maxRecDepth 100000 in
theorem span_Common.calls (a0_0 : Int) (a0_1 : Int) (a1_0 : Int) (a1_1 : Int) (r1 : Int) (r2 : Int) (r3 : Bool) (w : World) (h : span_Common.f a0_0 a0_1 a1_0 a1_1 = some (r1, r2, r3)) :
  Calls Try.prog 15 #[.agg #[.int .i64 a0_0, .int .i64 a0_1], .agg #[.int .i64 a1_0, .int .i64 a1_1]] w fun e w' => e = .returned (.tuple #[.agg #[.int .i64 r1, .int .i64 r2], .bool r3]) ∧ Below w.heap.size w w' := by
 have hu25 := Try.underlying25
 have HB := Aside0.mk (Below.refl w.heap.size w)
 have HH := Aside0.mk h
 clear h
 obtain ⟨k, hk0⟩ : ∃ k : Nat, k = 2 := ⟨_, rfl⟩
 obtain ⟨y127, hy127⟩ : ∃ y_ : List Int, y_ = (([a1_0] : List Int)) := ⟨_, rfl⟩
 obtain ⟨y131, hy131⟩ : ∃ y_ : List Int, y_ = (([a1_1] : List Int)) := ⟨_, rfl⟩
 obtain ⟨t130, ht130⟩ : ∃ t, t = mx a0_0 a1_0 := ⟨_, rfl⟩
 obtain ⟨t134, ht134⟩ : ∃ t, t = mn a0_1 a1_1 := ⟨_, rfl⟩
 have A3 : Aside0 (span_latest.f k a0_0 y127 = some t130) := ⟨by rw [hk0, hy127, ht130]; exact latest_one 0 a0_0 a1_0⟩
 have A4 : Aside0 (span_earliest.f k a0_1 y131 = some t134) := ⟨by rw [hk0, hy131, ht134]; exact earliest_one 0 a0_1 a1_1⟩
 have hH2 := HH.out
 unfold span_Common.f at hH2
 rw [← ht130, ← ht134] at hH2
 have HH := Aside0.mk hH2
 clear hH2 hk0 ht130 ht134
 have Ny127 := Aside0.mk hy127
 clear hy127
 have Ny131 := Aside0.mk hy131
 clear hy131
 go_enter Try.func15, Try.ntmps15
 try go_wp2_with (first | ((with_reducible refine gate_dst (N := 2) rfl ?_); refine box_event ?hg (N := 2) ?hd (cs := #[.int .i64 a0_0, .int .i64 a0_1]) (t := 25) ?hr ?_; (case hd => rfl); (case hg => rfl); (case hr => first | (go_simp; done) | (go_simp; rfl)); intro gb124 hg w5 hbox hb; have n0_ := Aside0.mk (below_step (bs HB.out) hb); have n1_ := Aside0.mk (hbox); have n2_ := Aside0.mk ((by rw [hg]; exact (below_size (bs HB.out)) : w.heap.size ≤ gb124)); have n3_ := n2_; clear HB; have HB := n0_; have BK124 := n1_; have GW124 := n2_; have GE124 := n3_; clear n0_ n1_ n2_ n3_; clear hb hbox hg) | ((with_reducible refine gate_dst (N := 3) rfl ?_); refine box_event ?hg (N := 3) ?hd (cs := #[.int .i64 a1_0, .int .i64 a1_1]) (t := 25) ?hr ?_; (case hd => rfl); (case hg => rfl); (case hr => first | (go_simp; done) | (go_simp; rfl)); intro gb125 hg w6 hbox hb; have n0_ := Aside0.mk (blk_below (bg BK124.out) hb); have n1_ := Aside0.mk (below_step (bs HB.out) hb); have n2_ := Aside0.mk (hbox); have n3_ := Aside0.mk ((by rw [hg]; exact (below_size (bs HB.out)) : w.heap.size ≤ gb125)); have n4_ := n3_; have n5_ := Aside0.mk ((by rw [hg]; exact Nat.ne_of_lt (blk_lt (bg BK124.out)) : gb124 ≠ gb125)); have n6_ := Aside0.mk ((by rw [hg]; exact Nat.ne_of_gt (blk_lt (bg BK124.out)) : gb125 ≠ gb124)); clear BK124; clear HB; have BK124 := n0_; have HB := n1_; have BK125 := n2_; have GW125 := n3_; have GE125 := n4_; have NB124_125 := n5_; have NB125_124 := n6_; clear n0_ n1_ n2_ n3_ n4_ n5_ n6_; clear hb hbox hg) | ((with_reducible refine gate_dst (N := 4) rfl ?_); refine box_event ?hg (N := 4) ?hd (cs := #[.int .i64 0, .int .i64 0]) (t := 25) ?hr ?_; (case hd => rfl); (case hg => rfl); (case hr => first | (go_simp; done) | (go_simp; rfl)); intro gb126 hg w7 hbox hb; have n0_ := Aside0.mk (blk_below (bg BK124.out) hb); have n1_ := Aside0.mk (blk_below (bg BK125.out) hb); have n2_ := Aside0.mk (below_step (bs HB.out) hb); have n3_ := Aside0.mk (hbox); have n4_ := Aside0.mk ((by rw [hg]; exact (below_size (bs HB.out)) : w.heap.size ≤ gb126)); have n5_ := n4_; have n6_ := Aside0.mk ((by rw [hg]; exact Nat.ne_of_lt (blk_lt (bg BK124.out)) : gb124 ≠ gb126)); have n7_ := Aside0.mk ((by rw [hg]; exact Nat.ne_of_gt (blk_lt (bg BK124.out)) : gb126 ≠ gb124)); have n8_ := Aside0.mk ((by rw [hg]; exact Nat.ne_of_lt (blk_lt (bg BK125.out)) : gb125 ≠ gb126)); have n9_ := Aside0.mk ((by rw [hg]; exact Nat.ne_of_gt (blk_lt (bg BK125.out)) : gb126 ≠ gb125)); clear BK124; clear BK125; clear HB; have BK124 := n0_; have BK125 := n1_; have HB := n2_; have BK126 := n3_; have GW126 := n4_; have GE126 := n5_; have NB124_126 := n6_; have NB126_124 := n7_; have NB125_126 := n8_; have NB126_125 := n9_; clear n0_ n1_ n2_ n3_ n4_ n5_ n6_ n7_ n8_ n9_; clear hb hbox hg))
 have n0_ := Aside0.mk (blk_drew BK124.out)
 have n1_ := Aside0.mk (blk_drew BK125.out)
 have n2_ := Aside0.mk (blk_drew BK126.out)
 have n3_ := Aside0.mk (below_drew1 HB.out)
 clear BK124
 clear BK125
 clear BK126
 clear HB
 have BK124 := n0_
 have BK125 := n1_
 have BK126 := n2_
 have HB := n3_
 clear n0_ n1_ n2_ n3_
 refine start_ (n := 15) (S := fun w' => w'.cell? ⟨gb124, 0, none⟩ = some (.int .i64 a0_0) ∧ w'.cell? ⟨gb124, 1, none⟩ = some (.int .i64 a0_1) ∧ w'.cell? ⟨gb125, 0, none⟩ = some (.int .i64 a1_0) ∧ w'.cell? ⟨gb125, 1, none⟩ = some (.int .i64 a1_1)) (ds := []) (bsq 0 15) (by kernel_rfl) rfl rfl ⟨(blk_cell BK124.out 0).trans rfl, (blk_cell BK124.out 1).trans rfl, (blk_cell BK125.out 0).trans rfl, (blk_cell BK125.out 1).trans rfl⟩ (fun hHeld => ?_); refine with_tabW span_Common.tab1 span_Common.bits1 (fun HT_ HW_ => ?_)
 generalize w7.drew = w8 at BK124 BK125 BK126 HB hHeld ⊢
 refine pu 0 7 (bsq 1 14) ?_
 refine pu 2 9 (bls [1, 1, 1, 12]) ?_
 refine pu 6 13 (bls [1, 1, 1, 3, 1, 8]) ?_
 refine pu 8 15 (bls [1, 1, 1, 3, 1, 1, 1, 6]) ?_
 refine tk 1 8 (bls [3, 3, 1, 1, 1, 6]) hHeld ?_ (he := by rintro w' ⟨s0, s1, s2, s3⟩; go_simp; with_reducible rfl)
 refine tk 3 10 (bls [4, 2, 1, 1, 1, 6]) hHeld ?_ (he := by rintro w' ⟨s0, s1, s2, s3⟩; go_simp; with_reducible rfl)
 refine tk 7 14 (bls [4, 2, 3, 6]) hHeld ?_ (he := by rintro w' ⟨s0, s1, s2, s3⟩; go_simp; with_reducible rfl)
 refine tk 9 16 (bls [4, 2, 4, 5]) hHeld ?_ (he := by rintro w' ⟨s0, s1, s2, s3⟩; go_simp; with_reducible rfl)
 refine join_ (σ := Value × Value × Nat) 1 (bsq 14 1) (fun s_ => [(11, s_.1), (12, .int .i64 t130), (17, s_.2.1), (18, .int .i64 t134), (6, .pointer (some ⟨s_.2.2, 0, none⟩)), (19, .agg #[.int .i64 t130, .int .i64 t134])]) (fun s_ w' => (w'.cell? ⟨gb124, 0, none⟩ = some (.int .i64 a0_0) ∧ w'.cell? ⟨gb124, 1, none⟩ = some (.int .i64 a0_1) ∧ w'.cell? ⟨gb125, 0, none⟩ = some (.int .i64 a1_0) ∧ w'.cell? ⟨gb125, 1, none⟩ = some (.int .i64 a1_1)) ∧ (Kd.R (Kd.int .i64) 3 w' w.heap.size (fun k_ => some k_ ≠ (s_.2.1 : Value).ownBlock) s_.1 y127) ∧ (Kd.R (Kd.int .i64) 3 w' w.heap.size (fun k_ => some k_ ≠ (s_.1 : Value).ownBlock) s_.2.1 y131) ∧ (w'.heap[gb124]? = some (.cells #[.int .i64 a0_0, .int .i64 a0_1] 25 (0, 0))) ∧ (w'.heap[gb125]? = some (.cells #[.int .i64 a1_0, .int .i64 a1_1] 25 (0, 0))) ∧ (w'.heap[gb126]? = some (.cells #[.int .i64 0, .int .i64 0] 25 (0, 0))) ∧ (w'.heap[s_.2.2]? = some (.cells #[.int .i64 0, .int .i64 0] 25 (0, 0))) ∧ (w.heap.size ≤ s_.2.2) ∧ (w.heap.size ≤ s_.2.2) ∧ (gb124 ≠ s_.2.2) ∧ (s_.2.2 ≠ gb124) ∧ (gb125 ≠ s_.2.2) ∧ (s_.2.2 ≠ gb125) ∧ (gb126 ≠ s_.2.2) ∧ (s_.2.2 ≠ gb126) ∧ (Below w.heap.size w w')) ?_ ?_
 rotate_left
 ·
  intro hJ4_5_10_11_13
  refine join_ (σ := Value × Value) 2 (bsq 13 2) (fun s_ => [(11, s_.1), (12, .int .i64 t130), (17, s_.2), (18, .int .i64 t134), (19, .agg #[.int .i64 t130, .int .i64 t134])]) (fun s_ w' => (w'.cell? ⟨gb124, 0, none⟩ = some (.int .i64 a0_0) ∧ w'.cell? ⟨gb124, 1, none⟩ = some (.int .i64 a0_1) ∧ w'.cell? ⟨gb125, 0, none⟩ = some (.int .i64 a1_0) ∧ w'.cell? ⟨gb125, 1, none⟩ = some (.int .i64 a1_1)) ∧ (Kd.R (Kd.int .i64) 3 w' w.heap.size (fun k_ => some k_ ≠ (s_.2 : Value).ownBlock) s_.1 y127) ∧ (Kd.R (Kd.int .i64) 3 w' w.heap.size (fun k_ => some k_ ≠ (s_.1 : Value).ownBlock) s_.2 y131) ∧ (w'.heap[gb124]? = some (.cells #[.int .i64 a0_0, .int .i64 a0_1] 25 (0, 0))) ∧ (w'.heap[gb125]? = some (.cells #[.int .i64 a1_0, .int .i64 a1_1] 25 (0, 0))) ∧ (w'.heap[gb126]? = some (.cells #[.int .i64 0, .int .i64 0] 25 (0, 0))) ∧ (Below w.heap.size w w')) ?_ ?_
  rotate_left
  ·
   intro hJ4_5_10_11
   refine join_ (σ := Value × Value × Nat) 3 #[true, true, true, true, true, true, true, true, true, true, true, false, false, true, false] (fun s_ => [(11, s_.1), (12, .int .i64 t130), (17, s_.2.1), (6, .pointer (some ⟨s_.2.2, 0, none⟩))]) (fun s_ w' => (w'.cell? ⟨gb124, 0, none⟩ = some (.int .i64 a0_0) ∧ w'.cell? ⟨gb124, 1, none⟩ = some (.int .i64 a0_1) ∧ w'.cell? ⟨gb125, 0, none⟩ = some (.int .i64 a1_0) ∧ w'.cell? ⟨gb125, 1, none⟩ = some (.int .i64 a1_1)) ∧ (Kd.R (Kd.int .i64) 3 w' w.heap.size (fun k_ => some k_ ≠ (s_.2.1 : Value).ownBlock) s_.1 y127) ∧ (Kd.R (Kd.int .i64) 3 w' w.heap.size (fun k_ => some k_ ≠ (s_.1 : Value).ownBlock) s_.2.1 y131) ∧ (w'.heap[gb124]? = some (.cells #[.int .i64 a0_0, .int .i64 a0_1] 25 (0, 0))) ∧ (w'.heap[gb125]? = some (.cells #[.int .i64 a1_0, .int .i64 a1_1] 25 (0, 0))) ∧ (w'.heap[gb126]? = some (.cells #[.int .i64 0, .int .i64 0] 25 (0, 0))) ∧ (w'.heap[s_.2.2]? = some (.cells #[.int .i64 0, .int .i64 0] 25 (0, 0))) ∧ (w.heap.size ≤ s_.2.2) ∧ (w.heap.size ≤ s_.2.2) ∧ (gb124 ≠ s_.2.2) ∧ (s_.2.2 ≠ gb124) ∧ (gb125 ≠ s_.2.2) ∧ (s_.2.2 ≠ gb125) ∧ (gb126 ≠ s_.2.2) ∧ (s_.2.2 ≠ gb126) ∧ (Below w.heap.size w w')) ?_ ?_
   rotate_left
   ·
    intro hJ4_5_10_13
    refine join_ (σ := Value × Value) 4 (bsq 11 4) (fun s_ => [(11, s_.1), (12, .int .i64 t130), (17, s_.2)]) (fun s_ w' => (w'.cell? ⟨gb124, 0, none⟩ = some (.int .i64 a0_0) ∧ w'.cell? ⟨gb124, 1, none⟩ = some (.int .i64 a0_1) ∧ w'.cell? ⟨gb125, 0, none⟩ = some (.int .i64 a1_0) ∧ w'.cell? ⟨gb125, 1, none⟩ = some (.int .i64 a1_1)) ∧ (Kd.R (Kd.int .i64) 3 w' w.heap.size (fun k_ => some k_ ≠ (s_.2 : Value).ownBlock) s_.1 y127) ∧ (Kd.R (Kd.int .i64) 3 w' w.heap.size (fun k_ => some k_ ≠ (s_.1 : Value).ownBlock) s_.2 y131) ∧ (w'.heap[gb124]? = some (.cells #[.int .i64 a0_0, .int .i64 a0_1] 25 (0, 0))) ∧ (w'.heap[gb125]? = some (.cells #[.int .i64 a1_0, .int .i64 a1_1] 25 (0, 0))) ∧ (w'.heap[gb126]? = some (.cells #[.int .i64 0, .int .i64 0] 25 (0, 0))) ∧ (Below w.heap.size w w')) ?_ ?_
    rotate_left
    ·
     intro hJ4_5_10
     refine join_ (σ := Value × Nat) 4 #[true, true, true, true, true, true, true, true, true, true, false, false, false, true, false] (fun s_ => [(11, s_.1), (12, .int .i64 t130), (6, .pointer (some ⟨s_.2, 0, none⟩))]) (fun s_ w' => (w'.cell? ⟨gb124, 0, none⟩ = some (.int .i64 a0_0) ∧ w'.cell? ⟨gb124, 1, none⟩ = some (.int .i64 a0_1) ∧ w'.cell? ⟨gb125, 0, none⟩ = some (.int .i64 a1_0) ∧ w'.cell? ⟨gb125, 1, none⟩ = some (.int .i64 a1_1)) ∧ (Kd.R (Kd.int .i64) 3 w' w.heap.size (fun _ => True) s_.1 y127) ∧ (w'.heap[gb124]? = some (.cells #[.int .i64 a0_0, .int .i64 a0_1] 25 (0, 0))) ∧ (w'.heap[gb125]? = some (.cells #[.int .i64 a1_0, .int .i64 a1_1] 25 (0, 0))) ∧ (w'.heap[gb126]? = some (.cells #[.int .i64 0, .int .i64 0] 25 (0, 0))) ∧ (w'.heap[s_.2]? = some (.cells #[.int .i64 0, .int .i64 0] 25 (0, 0))) ∧ (w.heap.size ≤ s_.2) ∧ (w.heap.size ≤ s_.2) ∧ (gb124 ≠ s_.2) ∧ (s_.2 ≠ gb124) ∧ (gb125 ≠ s_.2) ∧ (s_.2 ≠ gb125) ∧ (gb126 ≠ s_.2) ∧ (s_.2 ≠ gb126) ∧ (Below w.heap.size w w')) ?_ ?_
     rotate_left
     ·
      intro hJ4_5_13
      refine join_ (σ := Value × Value × Nat) 4 #[true, true, true, true, true, false, true, true, true, true, true, false, false, true, false] (fun s_ => [(11, s_.1), (17, s_.2.1), (6, .pointer (some ⟨s_.2.2, 0, none⟩))]) (fun s_ w' => (w'.cell? ⟨gb124, 0, none⟩ = some (.int .i64 a0_0) ∧ w'.cell? ⟨gb124, 1, none⟩ = some (.int .i64 a0_1) ∧ w'.cell? ⟨gb125, 0, none⟩ = some (.int .i64 a1_0) ∧ w'.cell? ⟨gb125, 1, none⟩ = some (.int .i64 a1_1)) ∧ (Kd.R (Kd.int .i64) 3 w' w.heap.size (fun k_ => some k_ ≠ (s_.2.1 : Value).ownBlock) s_.1 y127) ∧ (Kd.R (Kd.int .i64) 3 w' w.heap.size (fun k_ => some k_ ≠ (s_.1 : Value).ownBlock) s_.2.1 y131) ∧ (w'.heap[gb124]? = some (.cells #[.int .i64 a0_0, .int .i64 a0_1] 25 (0, 0))) ∧ (w'.heap[gb125]? = some (.cells #[.int .i64 a1_0, .int .i64 a1_1] 25 (0, 0))) ∧ (w'.heap[gb126]? = some (.cells #[.int .i64 0, .int .i64 0] 25 (0, 0))) ∧ (w'.heap[s_.2.2]? = some (.cells #[.int .i64 0, .int .i64 0] 25 (0, 0))) ∧ (w.heap.size ≤ s_.2.2) ∧ (w.heap.size ≤ s_.2.2) ∧ (gb124 ≠ s_.2.2) ∧ (s_.2.2 ≠ gb124) ∧ (gb125 ≠ s_.2.2) ∧ (s_.2.2 ≠ gb125) ∧ (gb126 ≠ s_.2.2) ∧ (s_.2.2 ≠ gb126) ∧ (Below w.heap.size w w')) ?_ ?_
      rotate_left
      ·
       intro hJ4_10_13
       refine join_ (σ := Value) 5 (bsq 10 5) (fun s_ => [(11, s_), (12, .int .i64 t130)]) (fun s_ w' => (w'.cell? ⟨gb124, 0, none⟩ = some (.int .i64 a0_0) ∧ w'.cell? ⟨gb124, 1, none⟩ = some (.int .i64 a0_1) ∧ w'.cell? ⟨gb125, 0, none⟩ = some (.int .i64 a1_0) ∧ w'.cell? ⟨gb125, 1, none⟩ = some (.int .i64 a1_1)) ∧ (Kd.R (Kd.int .i64) 3 w' w.heap.size (fun _ => True) s_ y127) ∧ (w'.heap[gb124]? = some (.cells #[.int .i64 a0_0, .int .i64 a0_1] 25 (0, 0))) ∧ (w'.heap[gb125]? = some (.cells #[.int .i64 a1_0, .int .i64 a1_1] 25 (0, 0))) ∧ (w'.heap[gb126]? = some (.cells #[.int .i64 0, .int .i64 0] 25 (0, 0))) ∧ (Below w.heap.size w w')) ?_ ?_
       rotate_left
       ·
        intro hJ4_5
        refine join_ (σ := Value × Value) 5 #[true, true, true, true, true, false, true, true, true, true, true, false, false, false, false] (fun s_ => [(11, s_.1), (17, s_.2)]) (fun s_ w' => (w'.cell? ⟨gb124, 0, none⟩ = some (.int .i64 a0_0) ∧ w'.cell? ⟨gb124, 1, none⟩ = some (.int .i64 a0_1) ∧ w'.cell? ⟨gb125, 0, none⟩ = some (.int .i64 a1_0) ∧ w'.cell? ⟨gb125, 1, none⟩ = some (.int .i64 a1_1)) ∧ (Kd.R (Kd.int .i64) 3 w' w.heap.size (fun k_ => some k_ ≠ (s_.2 : Value).ownBlock) s_.1 y127) ∧ (Kd.R (Kd.int .i64) 3 w' w.heap.size (fun k_ => some k_ ≠ (s_.1 : Value).ownBlock) s_.2 y131) ∧ (w'.heap[gb124]? = some (.cells #[.int .i64 a0_0, .int .i64 a0_1] 25 (0, 0))) ∧ (w'.heap[gb125]? = some (.cells #[.int .i64 a1_0, .int .i64 a1_1] 25 (0, 0))) ∧ (w'.heap[gb126]? = some (.cells #[.int .i64 0, .int .i64 0] 25 (0, 0))) ∧ (Below w.heap.size w w')) ?_ ?_
        rotate_left
        ·
         intro hJ4_10
         refine join_ (σ := Value × Nat) 5 #[true, true, true, true, true, false, true, true, true, true, false, false, false, true, false] (fun s_ => [(11, s_.1), (6, .pointer (some ⟨s_.2, 0, none⟩))]) (fun s_ w' => (w'.cell? ⟨gb124, 0, none⟩ = some (.int .i64 a0_0) ∧ w'.cell? ⟨gb124, 1, none⟩ = some (.int .i64 a0_1) ∧ w'.cell? ⟨gb125, 0, none⟩ = some (.int .i64 a1_0) ∧ w'.cell? ⟨gb125, 1, none⟩ = some (.int .i64 a1_1)) ∧ (Kd.R (Kd.int .i64) 3 w' w.heap.size (fun _ => True) s_.1 y127) ∧ (w'.heap[gb124]? = some (.cells #[.int .i64 a0_0, .int .i64 a0_1] 25 (0, 0))) ∧ (w'.heap[gb125]? = some (.cells #[.int .i64 a1_0, .int .i64 a1_1] 25 (0, 0))) ∧ (w'.heap[gb126]? = some (.cells #[.int .i64 0, .int .i64 0] 25 (0, 0))) ∧ (w'.heap[s_.2]? = some (.cells #[.int .i64 0, .int .i64 0] 25 (0, 0))) ∧ (w.heap.size ≤ s_.2) ∧ (w.heap.size ≤ s_.2) ∧ (gb124 ≠ s_.2) ∧ (s_.2 ≠ gb124) ∧ (gb125 ≠ s_.2) ∧ (s_.2 ≠ gb125) ∧ (gb126 ≠ s_.2) ∧ (s_.2 ≠ gb126) ∧ (Below w.heap.size w w')) ?_ ?_
         rotate_left
         ·
          intro hJ4_13
          refine join_ (σ := Value × Nat) 5 #[true, true, true, true, false, false, true, true, true, true, true, false, false, true, false] (fun s_ => [(17, s_.1), (6, .pointer (some ⟨s_.2, 0, none⟩))]) (fun s_ w' => (w'.cell? ⟨gb124, 0, none⟩ = some (.int .i64 a0_0) ∧ w'.cell? ⟨gb124, 1, none⟩ = some (.int .i64 a0_1) ∧ w'.cell? ⟨gb125, 0, none⟩ = some (.int .i64 a1_0) ∧ w'.cell? ⟨gb125, 1, none⟩ = some (.int .i64 a1_1)) ∧ (Kd.R (Kd.int .i64) 3 w' w.heap.size (fun _ => True) s_.1 y131) ∧ (w'.heap[gb124]? = some (.cells #[.int .i64 a0_0, .int .i64 a0_1] 25 (0, 0))) ∧ (w'.heap[gb125]? = some (.cells #[.int .i64 a1_0, .int .i64 a1_1] 25 (0, 0))) ∧ (w'.heap[gb126]? = some (.cells #[.int .i64 0, .int .i64 0] 25 (0, 0))) ∧ (w'.heap[s_.2]? = some (.cells #[.int .i64 0, .int .i64 0] 25 (0, 0))) ∧ (w.heap.size ≤ s_.2) ∧ (w.heap.size ≤ s_.2) ∧ (gb124 ≠ s_.2) ∧ (s_.2 ≠ gb124) ∧ (gb125 ≠ s_.2) ∧ (s_.2 ≠ gb125) ∧ (gb126 ≠ s_.2) ∧ (s_.2 ≠ gb126) ∧ (Below w.heap.size w w')) ?_ ?_
          rotate_left
          ·
           intro hJ10_13
           refine join_ (σ := Value) 6 #[true, true, true, true, true, false, true, true, true, true, false, false, false, false, false] (fun s_ => [(11, s_)]) (fun s_ w' => (w'.cell? ⟨gb124, 0, none⟩ = some (.int .i64 a0_0) ∧ w'.cell? ⟨gb124, 1, none⟩ = some (.int .i64 a0_1) ∧ w'.cell? ⟨gb125, 0, none⟩ = some (.int .i64 a1_0) ∧ w'.cell? ⟨gb125, 1, none⟩ = some (.int .i64 a1_1)) ∧ (Kd.R (Kd.int .i64) 3 w' w.heap.size (fun _ => True) s_ y127) ∧ (w'.heap[gb124]? = some (.cells #[.int .i64 a0_0, .int .i64 a0_1] 25 (0, 0))) ∧ (w'.heap[gb125]? = some (.cells #[.int .i64 a1_0, .int .i64 a1_1] 25 (0, 0))) ∧ (w'.heap[gb126]? = some (.cells #[.int .i64 0, .int .i64 0] 25 (0, 0))) ∧ (Below w.heap.size w w')) ?_ ?_
           rotate_left
           ·
            intro hJ4
            refine join_ (σ := Value) 6 #[true, true, true, true, false, false, true, true, true, true, true, false, false, false, false] (fun s_ => [(17, s_)]) (fun s_ w' => (w'.cell? ⟨gb124, 0, none⟩ = some (.int .i64 a0_0) ∧ w'.cell? ⟨gb124, 1, none⟩ = some (.int .i64 a0_1) ∧ w'.cell? ⟨gb125, 0, none⟩ = some (.int .i64 a1_0) ∧ w'.cell? ⟨gb125, 1, none⟩ = some (.int .i64 a1_1)) ∧ (Kd.R (Kd.int .i64) 3 w' w.heap.size (fun _ => True) s_ y131) ∧ (w'.heap[gb124]? = some (.cells #[.int .i64 a0_0, .int .i64 a0_1] 25 (0, 0))) ∧ (w'.heap[gb125]? = some (.cells #[.int .i64 a1_0, .int .i64 a1_1] 25 (0, 0))) ∧ (w'.heap[gb126]? = some (.cells #[.int .i64 0, .int .i64 0] 25 (0, 0))) ∧ (Below w.heap.size w w')) ?_ ?_
            rotate_left
            ·
             intro hJ10
             refine join_ (σ := Nat) 6 #[true, true, true, true, false, false, true, true, true, true, false, false, false, true, false] (fun s_ => [(6, .pointer (some ⟨s_, 0, none⟩))]) (fun s_ w' => (w'.cell? ⟨gb124, 0, none⟩ = some (.int .i64 a0_0) ∧ w'.cell? ⟨gb124, 1, none⟩ = some (.int .i64 a0_1) ∧ w'.cell? ⟨gb125, 0, none⟩ = some (.int .i64 a1_0) ∧ w'.cell? ⟨gb125, 1, none⟩ = some (.int .i64 a1_1)) ∧ (w'.heap[gb124]? = some (.cells #[.int .i64 a0_0, .int .i64 a0_1] 25 (0, 0))) ∧ (w'.heap[gb125]? = some (.cells #[.int .i64 a1_0, .int .i64 a1_1] 25 (0, 0))) ∧ (w'.heap[gb126]? = some (.cells #[.int .i64 0, .int .i64 0] 25 (0, 0))) ∧ (w'.heap[s_]? = some (.cells #[.int .i64 0, .int .i64 0] 25 (0, 0))) ∧ (w.heap.size ≤ s_) ∧ (w.heap.size ≤ s_) ∧ (gb124 ≠ s_) ∧ (s_ ≠ gb124) ∧ (gb125 ≠ s_) ∧ (s_ ≠ gb125) ∧ (gb126 ≠ s_) ∧ (s_ ≠ gb126) ∧ (Below w.heap.size w w')) ?_ ?_
             rotate_left
             ·
              intro hJ13
              refine three_ (i := 4) (j := 10) (k := 13) (Ni := some 11) (Nj := some 17) (Nk := some 6) #[true, true, true, true, true, false, true, true, true, true, false, false, false, false, false] #[true, true, true, true, false, false, true, true, true, true, true, false, false, false, false] #[true, true, true, true, false, false, true, true, true, true, false, false, false, true, false] rfl rfl rfl rfl rfl rfl (three_of HT_.out (by kernel_rfl)) (by decide) (by decide) (by decide) (fun K hK => ?_) (fun K hK => ?_) (fun K hK => ?_)
              ·
               skip
               refine Kd.R_lit_step (Kd.int .i64) _ 3 ?hg (N := 11) ?hd (xs := ([a1_0] : List Int)) (inner := [.int .i64 a1_0]) (ok := fun _ => True) (okp := fun _ => True) ?hr ?hp (fun _ hk => hk) trivial (Below.refl _ _) (Nat.le_refl _) (by simp) ?_; (case hd => rfl); (case hg => rfl); (case hr => first | (go_simp; done) | (go_simp; rfl)); (case hp => exact (Reps.one (show Kd.M (Kd.int .i64) _ _ _ a1_0 [.int .i64 a1_0] from rfl) (Reps.none _ _)))
               intro v128 w9 ho10 hb hg_ hnew_
               clear hg_ hnew_
               (first | rw [← Ny127.out] at ho10 | (simp only [Int.reduceToNat] at ho10; rw [← Ny127.out] at ho10))
               have n0_ := Aside0.mk (Kd.R_lower ho10 (below_size (bs HB.out)))
               have n1_ := Aside0.mk (blk_below (bg BK124.out) hb)
               have n2_ := Aside0.mk (blk_below (bg BK125.out) hb)
               have n3_ := Aside0.mk (blk_below (bg BK126.out) hb)
               have n4_ := Aside0.mk (below_step (bs HB.out) hb)
               clear BK124
               clear BK125
               clear BK126
               clear HB
               have HO129 := n0_
               have BK124 := n1_
               have BK125 := n2_
               have BK126 := n3_
               have HB := n4_
               clear n0_ n1_ n2_ n3_ n4_
               clear hb ho10
               refine hK.out _ _ ⟨(blk_cell BK124.out 0).trans rfl, (blk_cell BK124.out 1).trans rfl, (blk_cell BK125.out 0).trans rfl, (blk_cell BK125.out 1).trans rfl⟩ (fun hHeld => ?_)
               clear hK K
               refine norm_ (a' := ?_) ?_ ?_
               rotate_left
               ·
                show Act.put _ (some 11) _ = _
                simp only [Act.put, List.setIfInBounds_toArray, List.set_cons_zero, List.set_cons_succ, i64_w, i32_w]
                rfl
               exact norm_ (by first | (simp only [putAll, Act.put, List.setIfInBounds_toArray, List.set_cons_zero, List.set_cons_succ]; done) | (simp only [putAll, Act.put, List.setIfInBounds_toArray, List.set_cons_zero, List.set_cons_succ]; rfl)) (hJ4 (v128) _ ⟨hHeld, (rq HO129.out), (bg BK124.out), (bg BK125.out), (bg BK126.out), (bs HB.out)⟩)
              ·
               skip
               refine Kd.R_lit_step (Kd.int .i64) _ 3 ?hg (N := 17) ?hd (xs := ([a1_1] : List Int)) (inner := [.int .i64 a1_1]) (ok := fun _ => True) (okp := fun _ => True) ?hr ?hp (fun _ hk => hk) trivial (Below.refl _ _) (Nat.le_refl _) (by simp) ?_; (case hd => rfl); (case hg => rfl); (case hr => first | (go_simp; done) | (go_simp; rfl)); (case hp => exact (Reps.one (show Kd.M (Kd.int .i64) _ _ _ a1_1 [.int .i64 a1_1] from rfl) (Reps.none _ _)))
               intro v132 w9 ho10 hb hg_ hnew_
               clear hg_ hnew_
               (first | rw [← Ny131.out] at ho10 | (simp only [Int.reduceToNat] at ho10; rw [← Ny131.out] at ho10))
               have n0_ := Aside0.mk (Kd.R_lower ho10 (below_size (bs HB.out)))
               have n1_ := Aside0.mk (blk_below (bg BK124.out) hb)
               have n2_ := Aside0.mk (blk_below (bg BK125.out) hb)
               have n3_ := Aside0.mk (blk_below (bg BK126.out) hb)
               have n4_ := Aside0.mk (below_step (bs HB.out) hb)
               clear BK124
               clear BK125
               clear BK126
               clear HB
               have HO133 := n0_
               have BK124 := n1_
               have BK125 := n2_
               have BK126 := n3_
               have HB := n4_
               clear n0_ n1_ n2_ n3_ n4_
               clear hb ho10
               refine hK.out _ _ ⟨(blk_cell BK124.out 0).trans rfl, (blk_cell BK124.out 1).trans rfl, (blk_cell BK125.out 0).trans rfl, (blk_cell BK125.out 1).trans rfl⟩ (fun hHeld => ?_)
               clear hK K
               refine norm_ (a' := ?_) ?_ ?_
               rotate_left
               ·
                show Act.put _ (some 17) _ = _
                simp only [Act.put, List.setIfInBounds_toArray, List.set_cons_zero, List.set_cons_succ, i64_w, i32_w]
                rfl
               exact norm_ (by first | (simp only [putAll, Act.put, List.setIfInBounds_toArray, List.set_cons_zero, List.set_cons_succ]; done) | (simp only [putAll, Act.put, List.setIfInBounds_toArray, List.set_cons_zero, List.set_cons_succ]; rfl)) (hJ10 (v132) _ ⟨hHeld, (rq HO133.out), (bg BK124.out), (bg BK125.out), (bg BK126.out), (bs HB.out)⟩)
              ·
               skip
               refine box_step ?hg (N := 6) ?hd (cs := #[.int .i64 0, .int .i64 0]) (t := 25) ?hr ?_; (case hd => rfl); (case hg => rfl); (case hr => first | (go_simp; done) | (go_simp; rfl))
               intro gb135 hg w9 hbox hb
               have n0_ := Aside0.mk (blk_below (bg BK124.out) hb)
               have n1_ := Aside0.mk (blk_below (bg BK125.out) hb)
               have n2_ := Aside0.mk (blk_below (bg BK126.out) hb)
               have n3_ := Aside0.mk (below_step (bs HB.out) hb)
               have n4_ := Aside0.mk (hbox)
               have n5_ := Aside0.mk ((by rw [hg]; exact (below_size (bs HB.out)) : w.heap.size ≤ gb135))
               have n6_ := Aside0.mk ((by rw [hg]; exact (below_size (bs HB.out)) : w.heap.size ≤ gb135))
               have n7_ := Aside0.mk ((by rw [hg]; exact Nat.ne_of_lt (blk_lt (bg BK124.out)) : gb124 ≠ gb135))
               have n8_ := Aside0.mk ((by rw [hg]; exact Nat.ne_of_gt (blk_lt (bg BK124.out)) : gb135 ≠ gb124))
               have n9_ := Aside0.mk ((by rw [hg]; exact Nat.ne_of_lt (blk_lt (bg BK125.out)) : gb125 ≠ gb135))
               have n10_ := Aside0.mk ((by rw [hg]; exact Nat.ne_of_gt (blk_lt (bg BK125.out)) : gb135 ≠ gb125))
               have n11_ := Aside0.mk ((by rw [hg]; exact Nat.ne_of_lt (blk_lt (bg BK126.out)) : gb126 ≠ gb135))
               have n12_ := Aside0.mk ((by rw [hg]; exact Nat.ne_of_gt (blk_lt (bg BK126.out)) : gb135 ≠ gb126))
               clear BK124
               clear BK125
               clear BK126
               clear HB
               have BK124 := n0_
               have BK125 := n1_
               have BK126 := n2_
               have HB := n3_
               have BK135 := n4_
               have GW135 := n5_
               have GE135 := n6_
               have NB124_135 := n7_
               have NB135_124 := n8_
               have NB125_135 := n9_
               have NB135_125 := n10_
               have NB126_135 := n11_
               have NB135_126 := n12_
               clear n0_ n1_ n2_ n3_ n4_ n5_ n6_ n7_ n8_ n9_ n10_ n11_ n12_
               clear hb hbox hg
               refine hK.out _ _ ⟨(blk_cell BK124.out 0).trans rfl, (blk_cell BK124.out 1).trans rfl, (blk_cell BK125.out 0).trans rfl, (blk_cell BK125.out 1).trans rfl⟩ (fun hHeld => ?_)
               clear hK K
               refine norm_ (a' := ?_) ?_ ?_
               rotate_left
               ·
                show Act.put _ (some 6) _ = _
                simp only [Act.put, List.setIfInBounds_toArray, List.set_cons_zero, List.set_cons_succ, i64_w, i32_w]
                rfl
               exact norm_ (by first | (simp only [putAll, Act.put, List.setIfInBounds_toArray, List.set_cons_zero, List.set_cons_succ]; done) | (simp only [putAll, Act.put, List.setIfInBounds_toArray, List.set_cons_zero, List.set_cons_succ]; rfl)) (hJ13 (gb135) _ ⟨hHeld, (bg BK124.out), (bg BK125.out), (bg BK126.out), (bg BK135.out), GW135.out, GE135.out, NB124_135.out, NB135_124.out, NB125_135.out, NB135_125.out, NB126_135.out, NB135_126.out, (bs HB.out)⟩)
             ·
              skip
              rintro gb135 w10 ⟨hS_, h0_, h1_, h2_, h3_, h4_, h5_, h6_, h7_, h8_, h9_, h10_, h11_, h12_⟩
              have n0_ : Aside0 (w10.heap[gb124]? = some (.cells #[.int .i64 a0_0, .int .i64 a0_1] 25 (0, 0))) := ⟨h0_⟩
              have n1_ : Aside0 (w10.heap[gb125]? = some (.cells #[.int .i64 a1_0, .int .i64 a1_1] 25 (0, 0))) := ⟨h1_⟩
              have n2_ : Aside0 (w10.heap[gb126]? = some (.cells #[.int .i64 0, .int .i64 0] 25 (0, 0))) := ⟨h2_⟩
              have n3_ : Aside0 (w10.heap[gb135]? = some (.cells #[.int .i64 0, .int .i64 0] 25 (0, 0))) := ⟨h3_⟩
              have n4_ : Aside0 (w.heap.size ≤ gb135) := ⟨h4_⟩
              have n5_ : Aside0 (w.heap.size ≤ gb135) := ⟨h5_⟩
              have n6_ : Aside0 (gb124 ≠ gb135) := ⟨h6_⟩
              have n7_ : Aside0 (gb135 ≠ gb124) := ⟨h7_⟩
              have n8_ : Aside0 (gb125 ≠ gb135) := ⟨h8_⟩
              have n9_ : Aside0 (gb135 ≠ gb125) := ⟨h9_⟩
              have n10_ : Aside0 (gb126 ≠ gb135) := ⟨h10_⟩
              have n11_ : Aside0 (gb135 ≠ gb126) := ⟨h11_⟩
              have n12_ : Aside0 (Below w.heap.size w w10) := ⟨h12_⟩
              clear BK124
              clear BK125
              clear BK126
              clear HB
              clear h0_ h1_ h2_ h3_ h4_ h5_ h6_ h7_ h8_ h9_ h10_ h11_ h12_
              have BK124 := n0_
              have BK125 := n1_
              have BK126 := n2_
              have BK135 := n3_
              have GW135 := n4_
              have GE135 := n5_
              have NB124_135 := n6_
              have NB135_124 := n7_
              have NB125_135 := n8_
              have NB135_125 := n9_
              have NB126_135 := n10_
              have NB135_126 := n11_
              have HB := n12_
              clear n0_ n1_ n2_ n3_ n4_ n5_ n6_ n7_ n8_ n9_ n10_ n11_ n12_
              have hHeld : w10.cell? ⟨gb124, 0, none⟩ = some (.int .i64 a0_0) ∧ w10.cell? ⟨gb124, 1, none⟩ = some (.int .i64 a0_1) ∧ w10.cell? ⟨gb125, 0, none⟩ = some (.int .i64 a1_0) ∧ w10.cell? ⟨gb125, 1, none⟩ = some (.int .i64 a1_1) := hS_
              refine norm_ (a' := ?_) ?_ ?_
              rotate_left
              ·
               simp only [putAll, Act.put, List.setIfInBounds_toArray, List.set_cons_zero, List.set_cons_succ]
               rfl
              refine two_ (i := 4) (j := 10) (Ni := some 11) (Nj := some 17) #[true, true, true, true, true, false, true, true, true, true, false, false, false, true, false] #[true, true, true, true, false, false, true, true, true, true, true, false, false, true, false] rfl rfl rfl rfl (two_of HT_.out (by kernel_rfl)) (by decide) (by decide) (fun K hK => ?_) (fun K hK => ?_)
              ·
               skip
               refine Kd.R_lit_step (Kd.int .i64) _ 3 ?hg (N := 11) ?hd (xs := ([a1_0] : List Int)) (inner := [.int .i64 a1_0]) (ok := fun _ => True) (okp := fun _ => True) ?hr ?hp (fun _ hk => hk) trivial (Below.refl _ _) (Nat.le_refl _) (by simp) ?_; (case hd => rfl); (case hg => rfl); (case hr => first | (go_simp; done) | (go_simp; rfl)); (case hp => exact (Reps.one (show Kd.M (Kd.int .i64) _ _ _ a1_0 [.int .i64 a1_0] from rfl) (Reps.none _ _)))
               intro v128 w11 ho12 hb hg_ hnew_
               clear hg_ hnew_
               (first | rw [← Ny127.out] at ho12 | (simp only [Int.reduceToNat] at ho12; rw [← Ny127.out] at ho12))
               have n0_ := Aside0.mk (Kd.R_lower ho12 (below_size (bs HB.out)))
               have n1_ := Aside0.mk (blk_below (bg BK124.out) hb)
               have n2_ := Aside0.mk (blk_below (bg BK125.out) hb)
               have n3_ := Aside0.mk (blk_below (bg BK126.out) hb)
               have n4_ := Aside0.mk (blk_below (bg BK135.out) hb)
               have n5_ := Aside0.mk (below_step (bs HB.out) hb)
               clear BK124
               clear BK125
               clear BK126
               clear BK135
               clear HB
               have HO129 := n0_
               have BK124 := n1_
               have BK125 := n2_
               have BK126 := n3_
               have BK135 := n4_
               have HB := n5_
               clear n0_ n1_ n2_ n3_ n4_ n5_
               clear hb ho12
               refine hK.out _ _ ⟨(blk_cell BK124.out 0).trans rfl, (blk_cell BK124.out 1).trans rfl, (blk_cell BK125.out 0).trans rfl, (blk_cell BK125.out 1).trans rfl⟩ (fun hHeld => ?_)
               clear hK K
               refine norm_ (a' := ?_) ?_ ?_
               rotate_left
               ·
                show Act.put _ (some 11) _ = _
                simp only [Act.put, List.setIfInBounds_toArray, List.set_cons_zero, List.set_cons_succ, i64_w, i32_w]
                rfl
               exact norm_ (by first | (simp only [putAll, Act.put, List.setIfInBounds_toArray, List.set_cons_zero, List.set_cons_succ]; done) | (simp only [putAll, Act.put, List.setIfInBounds_toArray, List.set_cons_zero, List.set_cons_succ]; rfl)) (hJ4_13 (v128, gb135) _ ⟨hHeld, (rq HO129.out), (bg BK124.out), (bg BK125.out), (bg BK126.out), (bg BK135.out), GW135.out, GE135.out, NB124_135.out, NB135_124.out, NB125_135.out, NB135_125.out, NB126_135.out, NB135_126.out, (bs HB.out)⟩)
              ·
               skip
               refine Kd.R_lit_step (Kd.int .i64) _ 3 ?hg (N := 17) ?hd (xs := ([a1_1] : List Int)) (inner := [.int .i64 a1_1]) (ok := fun _ => True) (okp := fun _ => True) ?hr ?hp (fun _ hk => hk) trivial (Below.refl _ _) (Nat.le_refl _) (by simp) ?_; (case hd => rfl); (case hg => rfl); (case hr => first | (go_simp; done) | (go_simp; rfl)); (case hp => exact (Reps.one (show Kd.M (Kd.int .i64) _ _ _ a1_1 [.int .i64 a1_1] from rfl) (Reps.none _ _)))
               intro v132 w11 ho12 hb hg_ hnew_
               clear hg_ hnew_
               (first | rw [← Ny131.out] at ho12 | (simp only [Int.reduceToNat] at ho12; rw [← Ny131.out] at ho12))
               have n0_ := Aside0.mk (Kd.R_lower ho12 (below_size (bs HB.out)))
               have n1_ := Aside0.mk (blk_below (bg BK124.out) hb)
               have n2_ := Aside0.mk (blk_below (bg BK125.out) hb)
               have n3_ := Aside0.mk (blk_below (bg BK126.out) hb)
               have n4_ := Aside0.mk (blk_below (bg BK135.out) hb)
               have n5_ := Aside0.mk (below_step (bs HB.out) hb)
               clear BK124
               clear BK125
               clear BK126
               clear BK135
               clear HB
               have HO133 := n0_
               have BK124 := n1_
               have BK125 := n2_
               have BK126 := n3_
               have BK135 := n4_
               have HB := n5_
               clear n0_ n1_ n2_ n3_ n4_ n5_
               clear hb ho12
               refine hK.out _ _ ⟨(blk_cell BK124.out 0).trans rfl, (blk_cell BK124.out 1).trans rfl, (blk_cell BK125.out 0).trans rfl, (blk_cell BK125.out 1).trans rfl⟩ (fun hHeld => ?_)
               clear hK K
               refine norm_ (a' := ?_) ?_ ?_
               rotate_left
               ·
                show Act.put _ (some 17) _ = _
                simp only [Act.put, List.setIfInBounds_toArray, List.set_cons_zero, List.set_cons_succ, i64_w, i32_w]
                rfl
               exact norm_ (by first | (simp only [putAll, Act.put, List.setIfInBounds_toArray, List.set_cons_zero, List.set_cons_succ]; done) | (simp only [putAll, Act.put, List.setIfInBounds_toArray, List.set_cons_zero, List.set_cons_succ]; rfl)) (hJ10_13 (v132, gb135) _ ⟨hHeld, (rq HO133.out), (bg BK124.out), (bg BK125.out), (bg BK126.out), (bg BK135.out), GW135.out, GE135.out, NB124_135.out, NB135_124.out, NB125_135.out, NB135_125.out, NB126_135.out, NB135_126.out, (bs HB.out)⟩)
            ·
             skip
             rintro v132 w11 ⟨hS_, h0_, h1_, h2_, h3_, h4_⟩
             have n0_ : Aside0 (Kd.R (Kd.int .i64) 3 w11 w.heap.size (fun _ => True) v132 y131) := ⟨h0_⟩
             have n1_ : Aside0 (w11.heap[gb124]? = some (.cells #[.int .i64 a0_0, .int .i64 a0_1] 25 (0, 0))) := ⟨h1_⟩
             have n2_ : Aside0 (w11.heap[gb125]? = some (.cells #[.int .i64 a1_0, .int .i64 a1_1] 25 (0, 0))) := ⟨h2_⟩
             have n3_ : Aside0 (w11.heap[gb126]? = some (.cells #[.int .i64 0, .int .i64 0] 25 (0, 0))) := ⟨h3_⟩
             have n4_ : Aside0 (Below w.heap.size w w11) := ⟨h4_⟩
             clear BK124
             clear BK125
             clear BK126
             clear HB
             clear h0_ h1_ h2_ h3_ h4_
             have HO133 := n0_
             have BK124 := n1_
             have BK125 := n2_
             have BK126 := n3_
             have HB := n4_
             clear n0_ n1_ n2_ n3_ n4_
             have hHeld : w11.cell? ⟨gb124, 0, none⟩ = some (.int .i64 a0_0) ∧ w11.cell? ⟨gb124, 1, none⟩ = some (.int .i64 a0_1) ∧ w11.cell? ⟨gb125, 0, none⟩ = some (.int .i64 a1_0) ∧ w11.cell? ⟨gb125, 1, none⟩ = some (.int .i64 a1_1) := hS_
             refine norm_ (a' := ?_) ?_ ?_
             rotate_left
             ·
              simp only [putAll, Act.put, List.setIfInBounds_toArray, List.set_cons_zero, List.set_cons_succ]
              rfl
             refine two_ (i := 4) (j := 13) (Ni := some 11) (Nj := some 6) #[true, true, true, true, true, false, true, true, true, true, true, false, false, false, false] #[true, true, true, true, false, false, true, true, true, true, true, false, false, true, false] rfl rfl rfl rfl (two_of HT_.out (by kernel_rfl)) (by decide) (by decide) (fun K hK => ?_) (fun K hK => ?_)
             ·
              skip
              refine Kd.R_lit_step (Kd.int .i64) _ 3 ?hg (N := 11) ?hd (xs := ([a1_0] : List Int)) (inner := [.int .i64 a1_0]) (ok := fun _ => True) (okp := fun _ => True) ?hr ?hp (fun _ hk => hk) trivial (Below.refl _ _) (Nat.le_refl _) (by simp) ?_; (case hd => rfl); (case hg => rfl); (case hr => first | (go_simp; done) | (go_simp; rfl)); (case hp => exact (Reps.one (show Kd.M (Kd.int .i64) _ _ _ a1_0 [.int .i64 a1_0] from rfl) (Reps.none _ _)))
              intro v128 w12 ho13 hb hg_ hnew_
              clear hg_ hnew_
              (first | rw [← Ny127.out] at ho13 | (simp only [Int.reduceToNat] at ho13; rw [← Ny127.out] at ho13))
              have n0_ := Aside0.mk (Kd.R_elder' (rq HO133.out) (Kd.R_base ho13) hb)
              have n1_ := Aside0.mk (Kd.R_lower (Kd.R_new' ho13 (Kd.R_lt (rq HO133.out))) (below_size (bs HB.out)))
              have n2_ := Aside0.mk (blk_below (bg BK124.out) hb)
              have n3_ := Aside0.mk (blk_below (bg BK125.out) hb)
              have n4_ := Aside0.mk (blk_below (bg BK126.out) hb)
              have n5_ := Aside0.mk (below_step (bs HB.out) hb)
              clear HO133
              clear BK124
              clear BK125
              clear BK126
              clear HB
              have HO133 := n0_
              have HO129 := n1_
              have BK124 := n2_
              have BK125 := n3_
              have BK126 := n4_
              have HB := n5_
              clear n0_ n1_ n2_ n3_ n4_ n5_
              clear hb ho13
              refine hK.out _ _ ⟨(blk_cell BK124.out 0).trans rfl, (blk_cell BK124.out 1).trans rfl, (blk_cell BK125.out 0).trans rfl, (blk_cell BK125.out 1).trans rfl⟩ (fun hHeld => ?_)
              clear hK K
              refine norm_ (a' := ?_) ?_ ?_
              rotate_left
              ·
               show Act.put _ (some 11) _ = _
               simp only [Act.put, List.setIfInBounds_toArray, List.set_cons_zero, List.set_cons_succ, i64_w, i32_w]
               rfl
              exact norm_ (by first | (simp only [putAll, Act.put, List.setIfInBounds_toArray, List.set_cons_zero, List.set_cons_succ]; done) | (simp only [putAll, Act.put, List.setIfInBounds_toArray, List.set_cons_zero, List.set_cons_succ]; rfl)) (hJ4_10 (v128, v132) _ ⟨hHeld, (by (with_reducible repeat (first | apply Kd.R_alloc | apply Kd.R_drewN | apply Kd.R_drew)); exact Kd.R_mono HO129.out (fun _ hk => hk.2)), (by (with_reducible repeat (first | apply Kd.R_alloc | apply Kd.R_drewN | apply Kd.R_drew)); exact Kd.R_mono HO133.out (fun _ hk => hk.2)), (bg BK124.out), (bg BK125.out), (bg BK126.out), (bs HB.out)⟩)
             ·
              skip
              refine box_step ?hg (N := 6) ?hd (cs := #[.int .i64 0, .int .i64 0]) (t := 25) ?hr ?_; (case hd => rfl); (case hg => rfl); (case hr => first | (go_simp; done) | (go_simp; rfl))
              intro gb135 hg w12 hbox hb
              have n0_ := Aside0.mk (Kd.R_below (rq HO133.out) hb)
              have n1_ := Aside0.mk (blk_below (bg BK124.out) hb)
              have n2_ := Aside0.mk (blk_below (bg BK125.out) hb)
              have n3_ := Aside0.mk (blk_below (bg BK126.out) hb)
              have n4_ := Aside0.mk (below_step (bs HB.out) hb)
              have n5_ := Aside0.mk (hbox)
              have n6_ := Aside0.mk ((by rw [hg]; exact (below_size (bs HB.out)) : w.heap.size ≤ gb135))
              have n7_ := Aside0.mk ((by rw [hg]; exact (below_size (bs HB.out)) : w.heap.size ≤ gb135))
              have n8_ := Aside0.mk ((by rw [hg]; exact Nat.ne_of_lt (blk_lt (bg BK124.out)) : gb124 ≠ gb135))
              have n9_ := Aside0.mk ((by rw [hg]; exact Nat.ne_of_gt (blk_lt (bg BK124.out)) : gb135 ≠ gb124))
              have n10_ := Aside0.mk ((by rw [hg]; exact Nat.ne_of_lt (blk_lt (bg BK125.out)) : gb125 ≠ gb135))
              have n11_ := Aside0.mk ((by rw [hg]; exact Nat.ne_of_gt (blk_lt (bg BK125.out)) : gb135 ≠ gb125))
              have n12_ := Aside0.mk ((by rw [hg]; exact Nat.ne_of_lt (blk_lt (bg BK126.out)) : gb126 ≠ gb135))
              have n13_ := Aside0.mk ((by rw [hg]; exact Nat.ne_of_gt (blk_lt (bg BK126.out)) : gb135 ≠ gb126))
              clear HO133
              clear BK124
              clear BK125
              clear BK126
              clear HB
              have HO133 := n0_
              have BK124 := n1_
              have BK125 := n2_
              have BK126 := n3_
              have HB := n4_
              have BK135 := n5_
              have GW135 := n6_
              have GE135 := n7_
              have NB124_135 := n8_
              have NB135_124 := n9_
              have NB125_135 := n10_
              have NB135_125 := n11_
              have NB126_135 := n12_
              have NB135_126 := n13_
              clear n0_ n1_ n2_ n3_ n4_ n5_ n6_ n7_ n8_ n9_ n10_ n11_ n12_ n13_
              clear hb hbox hg
              refine hK.out _ _ ⟨(blk_cell BK124.out 0).trans rfl, (blk_cell BK124.out 1).trans rfl, (blk_cell BK125.out 0).trans rfl, (blk_cell BK125.out 1).trans rfl⟩ (fun hHeld => ?_)
              clear hK K
              refine norm_ (a' := ?_) ?_ ?_
              rotate_left
              ·
               show Act.put _ (some 6) _ = _
               simp only [Act.put, List.setIfInBounds_toArray, List.set_cons_zero, List.set_cons_succ, i64_w, i32_w]
               rfl
              exact norm_ (by first | (simp only [putAll, Act.put, List.setIfInBounds_toArray, List.set_cons_zero, List.set_cons_succ]; done) | (simp only [putAll, Act.put, List.setIfInBounds_toArray, List.set_cons_zero, List.set_cons_succ]; rfl)) (hJ10_13 (v132, gb135) _ ⟨hHeld, (rq HO133.out), (bg BK124.out), (bg BK125.out), (bg BK126.out), (bg BK135.out), GW135.out, GE135.out, NB124_135.out, NB135_124.out, NB125_135.out, NB135_125.out, NB126_135.out, NB135_126.out, (bs HB.out)⟩)
           ·
            skip
            rintro v128 w11 ⟨hS_, h0_, h1_, h2_, h3_, h4_⟩
            have n0_ : Aside0 (Kd.R (Kd.int .i64) 3 w11 w.heap.size (fun _ => True) v128 y127) := ⟨h0_⟩
            have n1_ : Aside0 (w11.heap[gb124]? = some (.cells #[.int .i64 a0_0, .int .i64 a0_1] 25 (0, 0))) := ⟨h1_⟩
            have n2_ : Aside0 (w11.heap[gb125]? = some (.cells #[.int .i64 a1_0, .int .i64 a1_1] 25 (0, 0))) := ⟨h2_⟩
            have n3_ : Aside0 (w11.heap[gb126]? = some (.cells #[.int .i64 0, .int .i64 0] 25 (0, 0))) := ⟨h3_⟩
            have n4_ : Aside0 (Below w.heap.size w w11) := ⟨h4_⟩
            clear BK124
            clear BK125
            clear BK126
            clear HB
            clear h0_ h1_ h2_ h3_ h4_
            have HO129 := n0_
            have BK124 := n1_
            have BK125 := n2_
            have BK126 := n3_
            have HB := n4_
            clear n0_ n1_ n2_ n3_ n4_
            have hHeld : w11.cell? ⟨gb124, 0, none⟩ = some (.int .i64 a0_0) ∧ w11.cell? ⟨gb124, 1, none⟩ = some (.int .i64 a0_1) ∧ w11.cell? ⟨gb125, 0, none⟩ = some (.int .i64 a1_0) ∧ w11.cell? ⟨gb125, 1, none⟩ = some (.int .i64 a1_1) := hS_
            obtain ⟨Ao12, co12, eo12⟩ := Kd.R_slice HO129.out
            (first | subst eo12 | (injection eo12 with f1_ f2_ f3_; have f4_ := f1_.symm; have f5_ := f3_.symm; clear f1_ f2_ f3_; subst f4_; subst f5_))
            refine norm_ (a' := ?_) ?_ ?_
            rotate_left
            ·
             simp only [putAll, Act.put, List.setIfInBounds_toArray, List.set_cons_zero, List.set_cons_succ]
             rfl
            refine three_ (i := 5) (j := 10) (k := 13) (Ni := some 12) (Nj := some 17) (Nk := some 6) (bsq 10 5) #[true, true, true, true, true, false, true, true, true, true, true, false, false, false, false] #[true, true, true, true, true, false, true, true, true, true, false, false, false, true, false] rfl rfl rfl rfl rfl rfl (three_of HT_.out (by kernel_rfl)) (by decide) (by decide) (by decide) (fun K hK => ?_) (fun K hK => ?_) (fun K hK => ?_)
            ·
             skip
             refine goes_ Try.func28 (by kernel_rfl) rfl #[.int .i64 a0_0, .slice Ao12 y127.length co12] (by rfl) rfl rfl (by (try simp only [List.map_toArray, List.map_cons, List.map_nil]); first | done | rfl | (simp only [List.length_drop, List.length_take]; rfl)) ?_
             with_reducible refine (span_latest.calls k a0_0 _ _ y127 t130 _ ?side1 ?side2 A3.out).mono ?_
             (case side1 => repeat (first | exact (Kd.R_reads' HO129.out).2.2 | (with_reducible refine Kd.C_alloc ?_ _) | (with_reducible refine Kd.C_drewN ?_ _) | (with_reducible refine Kd.C_drew ?_)))
             (case side2 => exact (Kd.R_reads' HO129.out).2.1)
             rintro e w13 ⟨rfl, hb⟩
             refine ⟨_, rfl, ?_⟩
             have n0_ := Aside0.mk (Kd.R_below (rq HO129.out) hb)
             have n1_ := Aside0.mk (blk_below (bg BK124.out) hb)
             have n2_ := Aside0.mk (blk_below (bg BK125.out) hb)
             have n3_ := Aside0.mk (blk_below (bg BK126.out) hb)
             have n4_ := Aside0.mk (below_step (bs HB.out) hb)
             clear HO129
             clear BK124
             clear BK125
             clear BK126
             clear HB
             have HO129 := n0_
             have BK124 := n1_
             have BK125 := n2_
             have BK126 := n3_
             have HB := n4_
             clear n0_ n1_ n2_ n3_ n4_
             (try clear hb)
             (try clear hb2)
             (try clear hk)
             (try clear hi)
             refine hK.out _ _ ⟨(blk_cell BK124.out 0).trans rfl, (blk_cell BK124.out 1).trans rfl, (blk_cell BK125.out 0).trans rfl, (blk_cell BK125.out 1).trans rfl⟩ (fun hHeld => ?_)
             clear hK K
             refine norm_ (a' := ?_) ?_ ?_
             rotate_left
             ·
              show Act.put _ (some 12) _ = _
              simp only [Act.put, List.setIfInBounds_toArray, List.set_cons_zero, List.set_cons_succ, i64_w, i32_w]
              rfl
             exact norm_ (by first | (simp only [putAll, Act.put, List.setIfInBounds_toArray, List.set_cons_zero, List.set_cons_succ]; done) | (simp only [putAll, Act.put, List.setIfInBounds_toArray, List.set_cons_zero, List.set_cons_succ]; rfl)) (hJ4_5 (.slice Ao12 y127.length co12) _ ⟨hHeld, (rq HO129.out), (bg BK124.out), (bg BK125.out), (bg BK126.out), (bs HB.out)⟩)
            ·
             skip
             refine Kd.R_lit_step (Kd.int .i64) _ 3 ?hg (N := 17) ?hd (xs := ([a1_1] : List Int)) (inner := [.int .i64 a1_1]) (ok := fun _ => True) (okp := fun _ => True) ?hr ?hp (fun _ hk => hk) trivial (Below.refl _ _) (Nat.le_refl _) (by simp) ?_; (case hd => rfl); (case hg => rfl); (case hr => first | (go_simp; done) | (go_simp; rfl)); (case hp => exact (Reps.one (show Kd.M (Kd.int .i64) _ _ _ a1_1 [.int .i64 a1_1] from rfl) (Reps.none _ _)))
             intro v132 w12 ho13 hb hg_ hnew_
             clear hg_ hnew_
             (first | rw [← Ny131.out] at ho13 | (simp only [Int.reduceToNat] at ho13; rw [← Ny131.out] at ho13))
             have n0_ := Aside0.mk (Kd.R_elder' (rq HO129.out) (Kd.R_base ho13) hb)
             have n1_ := Aside0.mk (Kd.R_lower (Kd.R_new' ho13 (Kd.R_lt (rq HO129.out))) (below_size (bs HB.out)))
             have n2_ := Aside0.mk (blk_below (bg BK124.out) hb)
             have n3_ := Aside0.mk (blk_below (bg BK125.out) hb)
             have n4_ := Aside0.mk (blk_below (bg BK126.out) hb)
             have n5_ := Aside0.mk (below_step (bs HB.out) hb)
             clear HO129
             clear BK124
             clear BK125
             clear BK126
             clear HB
             have HO129 := n0_
             have HO133 := n1_
             have BK124 := n2_
             have BK125 := n3_
             have BK126 := n4_
             have HB := n5_
             clear n0_ n1_ n2_ n3_ n4_ n5_
             clear hb ho13
             refine hK.out _ _ ⟨(blk_cell BK124.out 0).trans rfl, (blk_cell BK124.out 1).trans rfl, (blk_cell BK125.out 0).trans rfl, (blk_cell BK125.out 1).trans rfl⟩ (fun hHeld => ?_)
             clear hK K
             refine norm_ (a' := ?_) ?_ ?_
             rotate_left
             ·
              show Act.put _ (some 17) _ = _
              simp only [Act.put, List.setIfInBounds_toArray, List.set_cons_zero, List.set_cons_succ, i64_w, i32_w]
              rfl
             exact norm_ (by first | (simp only [putAll, Act.put, List.setIfInBounds_toArray, List.set_cons_zero, List.set_cons_succ]; done) | (simp only [putAll, Act.put, List.setIfInBounds_toArray, List.set_cons_zero, List.set_cons_succ]; rfl)) (hJ4_10 ((.slice Ao12 y127.length co12), v132) _ ⟨hHeld, (by (with_reducible repeat (first | apply Kd.R_alloc | apply Kd.R_drewN | apply Kd.R_drew)); exact Kd.R_mono HO129.out (fun _ hk => hk.2)), (by (with_reducible repeat (first | apply Kd.R_alloc | apply Kd.R_drewN | apply Kd.R_drew)); exact Kd.R_mono HO133.out (fun _ hk => hk.2)), (bg BK124.out), (bg BK125.out), (bg BK126.out), (bs HB.out)⟩)
            ·
             skip
             refine box_step ?hg (N := 6) ?hd (cs := #[.int .i64 0, .int .i64 0]) (t := 25) ?hr ?_; (case hd => rfl); (case hg => rfl); (case hr => first | (go_simp; done) | (go_simp; rfl))
             intro gb135 hg w12 hbox hb
             have n0_ := Aside0.mk (Kd.R_below (rq HO129.out) hb)
             have n1_ := Aside0.mk (blk_below (bg BK124.out) hb)
             have n2_ := Aside0.mk (blk_below (bg BK125.out) hb)
             have n3_ := Aside0.mk (blk_below (bg BK126.out) hb)
             have n4_ := Aside0.mk (below_step (bs HB.out) hb)
             have n5_ := Aside0.mk (hbox)
             have n6_ := Aside0.mk ((by rw [hg]; exact (below_size (bs HB.out)) : w.heap.size ≤ gb135))
             have n7_ := Aside0.mk ((by rw [hg]; exact (below_size (bs HB.out)) : w.heap.size ≤ gb135))
             have n8_ := Aside0.mk ((by rw [hg]; exact Nat.ne_of_lt (blk_lt (bg BK124.out)) : gb124 ≠ gb135))
             have n9_ := Aside0.mk ((by rw [hg]; exact Nat.ne_of_gt (blk_lt (bg BK124.out)) : gb135 ≠ gb124))
             have n10_ := Aside0.mk ((by rw [hg]; exact Nat.ne_of_lt (blk_lt (bg BK125.out)) : gb125 ≠ gb135))
             have n11_ := Aside0.mk ((by rw [hg]; exact Nat.ne_of_gt (blk_lt (bg BK125.out)) : gb135 ≠ gb125))
             have n12_ := Aside0.mk ((by rw [hg]; exact Nat.ne_of_lt (blk_lt (bg BK126.out)) : gb126 ≠ gb135))
             have n13_ := Aside0.mk ((by rw [hg]; exact Nat.ne_of_gt (blk_lt (bg BK126.out)) : gb135 ≠ gb126))
             clear HO129
             clear BK124
             clear BK125
             clear BK126
             clear HB
             have HO129 := n0_
             have BK124 := n1_
             have BK125 := n2_
             have BK126 := n3_
             have HB := n4_
             have BK135 := n5_
             have GW135 := n6_
             have GE135 := n7_
             have NB124_135 := n8_
             have NB135_124 := n9_
             have NB125_135 := n10_
             have NB135_125 := n11_
             have NB126_135 := n12_
             have NB135_126 := n13_
             clear n0_ n1_ n2_ n3_ n4_ n5_ n6_ n7_ n8_ n9_ n10_ n11_ n12_ n13_
             clear hb hbox hg
             refine hK.out _ _ ⟨(blk_cell BK124.out 0).trans rfl, (blk_cell BK124.out 1).trans rfl, (blk_cell BK125.out 0).trans rfl, (blk_cell BK125.out 1).trans rfl⟩ (fun hHeld => ?_)
             clear hK K
             refine norm_ (a' := ?_) ?_ ?_
             rotate_left
             ·
              show Act.put _ (some 6) _ = _
              simp only [Act.put, List.setIfInBounds_toArray, List.set_cons_zero, List.set_cons_succ, i64_w, i32_w]
              rfl
             exact norm_ (by first | (simp only [putAll, Act.put, List.setIfInBounds_toArray, List.set_cons_zero, List.set_cons_succ]; done) | (simp only [putAll, Act.put, List.setIfInBounds_toArray, List.set_cons_zero, List.set_cons_succ]; rfl)) (hJ4_13 ((.slice Ao12 y127.length co12), gb135) _ ⟨hHeld, (rq HO129.out), (bg BK124.out), (bg BK125.out), (bg BK126.out), (bg BK135.out), GW135.out, GE135.out, NB124_135.out, NB135_124.out, NB125_135.out, NB135_125.out, NB126_135.out, NB135_126.out, (bs HB.out)⟩)
          ·
           skip
           rintro ⟨v132, gb135⟩ w12 ⟨hS_, h0_, h1_, h2_, h3_, h4_, h5_, h6_, h7_, h8_, h9_, h10_, h11_, h12_, h13_⟩
           have n0_ : Aside0 (Kd.R (Kd.int .i64) 3 w12 w.heap.size (fun _ => True) v132 y131) := ⟨h0_⟩
           have n1_ : Aside0 (w12.heap[gb124]? = some (.cells #[.int .i64 a0_0, .int .i64 a0_1] 25 (0, 0))) := ⟨h1_⟩
           have n2_ : Aside0 (w12.heap[gb125]? = some (.cells #[.int .i64 a1_0, .int .i64 a1_1] 25 (0, 0))) := ⟨h2_⟩
           have n3_ : Aside0 (w12.heap[gb126]? = some (.cells #[.int .i64 0, .int .i64 0] 25 (0, 0))) := ⟨h3_⟩
           have n4_ : Aside0 (w12.heap[gb135]? = some (.cells #[.int .i64 0, .int .i64 0] 25 (0, 0))) := ⟨h4_⟩
           have n5_ : Aside0 (w.heap.size ≤ gb135) := ⟨h5_⟩
           have n6_ : Aside0 (w.heap.size ≤ gb135) := ⟨h6_⟩
           have n7_ : Aside0 (gb124 ≠ gb135) := ⟨h7_⟩
           have n8_ : Aside0 (gb135 ≠ gb124) := ⟨h8_⟩
           have n9_ : Aside0 (gb125 ≠ gb135) := ⟨h9_⟩
           have n10_ : Aside0 (gb135 ≠ gb125) := ⟨h10_⟩
           have n11_ : Aside0 (gb126 ≠ gb135) := ⟨h11_⟩
           have n12_ : Aside0 (gb135 ≠ gb126) := ⟨h12_⟩
           have n13_ : Aside0 (Below w.heap.size w w12) := ⟨h13_⟩
           clear BK124
           clear BK125
           clear BK126
           clear HB
           clear h0_ h1_ h2_ h3_ h4_ h5_ h6_ h7_ h8_ h9_ h10_ h11_ h12_ h13_
           have HO133 := n0_
           have BK124 := n1_
           have BK125 := n2_
           have BK126 := n3_
           have BK135 := n4_
           have GW135 := n5_
           have GE135 := n6_
           have NB124_135 := n7_
           have NB135_124 := n8_
           have NB125_135 := n9_
           have NB135_125 := n10_
           have NB126_135 := n11_
           have NB135_126 := n12_
           have HB := n13_
           clear n0_ n1_ n2_ n3_ n4_ n5_ n6_ n7_ n8_ n9_ n10_ n11_ n12_ n13_
           have hHeld : w12.cell? ⟨gb124, 0, none⟩ = some (.int .i64 a0_0) ∧ w12.cell? ⟨gb124, 1, none⟩ = some (.int .i64 a0_1) ∧ w12.cell? ⟨gb125, 0, none⟩ = some (.int .i64 a1_0) ∧ w12.cell? ⟨gb125, 1, none⟩ = some (.int .i64 a1_1) := hS_
           refine norm_ (a' := ?_) ?_ ?_
           rotate_left
           ·
            simp only [putAll, Act.put, List.setIfInBounds_toArray, List.set_cons_zero, List.set_cons_succ]
            rfl
           refine one_ (i := 4) (N := some 11) #[true, true, true, true, true, false, true, true, true, true, true, false, false, true, false] rfl rfl (one_of HT_.out (by kernel_rfl)) (by decide) (fun K hK => ?_)
           refine Kd.R_lit_step (Kd.int .i64) _ 3 ?hg (N := 11) ?hd (xs := ([a1_0] : List Int)) (inner := [.int .i64 a1_0]) (ok := fun _ => True) (okp := fun _ => True) ?hr ?hp (fun _ hk => hk) trivial (Below.refl _ _) (Nat.le_refl _) (by simp) ?_; (case hd => rfl); (case hg => rfl); (case hr => first | (go_simp; done) | (go_simp; rfl)); (case hp => exact (Reps.one (show Kd.M (Kd.int .i64) _ _ _ a1_0 [.int .i64 a1_0] from rfl) (Reps.none _ _)))
           intro v128 w13 ho14 hb hg_ hnew_
           clear hg_ hnew_
           (first | rw [← Ny127.out] at ho14 | (simp only [Int.reduceToNat] at ho14; rw [← Ny127.out] at ho14))
           have n0_ := Aside0.mk (Kd.R_elder' (rq HO133.out) (Kd.R_base ho14) hb)
           have n1_ := Aside0.mk (Kd.R_lower (Kd.R_new' ho14 (Kd.R_lt (rq HO133.out))) (below_size (bs HB.out)))
           have n2_ := Aside0.mk (blk_below (bg BK124.out) hb)
           have n3_ := Aside0.mk (blk_below (bg BK125.out) hb)
           have n4_ := Aside0.mk (blk_below (bg BK126.out) hb)
           have n5_ := Aside0.mk (blk_below (bg BK135.out) hb)
           have n6_ := Aside0.mk (below_step (bs HB.out) hb)
           clear HO133
           clear BK124
           clear BK125
           clear BK126
           clear BK135
           clear HB
           have HO133 := n0_
           have HO129 := n1_
           have BK124 := n2_
           have BK125 := n3_
           have BK126 := n4_
           have BK135 := n5_
           have HB := n6_
           clear n0_ n1_ n2_ n3_ n4_ n5_ n6_
           clear hb ho14
           refine hK.out _ _ ⟨(blk_cell BK124.out 0).trans rfl, (blk_cell BK124.out 1).trans rfl, (blk_cell BK125.out 0).trans rfl, (blk_cell BK125.out 1).trans rfl⟩ (fun hHeld => ?_)
           clear hK K
           refine norm_ (a' := ?_) ?_ ?_
           rotate_left
           ·
            show Act.put _ (some 11) _ = _
            simp only [Act.put, List.setIfInBounds_toArray, List.set_cons_zero, List.set_cons_succ, i64_w, i32_w]
            rfl
           exact norm_ (by first | (simp only [putAll, Act.put, List.setIfInBounds_toArray, List.set_cons_zero, List.set_cons_succ]; done) | (simp only [putAll, Act.put, List.setIfInBounds_toArray, List.set_cons_zero, List.set_cons_succ]; rfl)) (hJ4_10_13 (v128, v132, gb135) _ ⟨hHeld, (by (with_reducible repeat (first | apply Kd.R_alloc | apply Kd.R_drewN | apply Kd.R_drew)); exact Kd.R_mono HO129.out (fun _ hk => hk.2)), (by (with_reducible repeat (first | apply Kd.R_alloc | apply Kd.R_drewN | apply Kd.R_drew)); exact Kd.R_mono HO133.out (fun _ hk => hk.2)), (bg BK124.out), (bg BK125.out), (bg BK126.out), (bg BK135.out), GW135.out, GE135.out, NB124_135.out, NB135_124.out, NB125_135.out, NB135_125.out, NB126_135.out, NB135_126.out, (bs HB.out)⟩)
         ·
          skip
          rintro ⟨v128, gb135⟩ w12 ⟨hS_, h0_, h1_, h2_, h3_, h4_, h5_, h6_, h7_, h8_, h9_, h10_, h11_, h12_, h13_⟩
          have n0_ : Aside0 (Kd.R (Kd.int .i64) 3 w12 w.heap.size (fun _ => True) v128 y127) := ⟨h0_⟩
          have n1_ : Aside0 (w12.heap[gb124]? = some (.cells #[.int .i64 a0_0, .int .i64 a0_1] 25 (0, 0))) := ⟨h1_⟩
          have n2_ : Aside0 (w12.heap[gb125]? = some (.cells #[.int .i64 a1_0, .int .i64 a1_1] 25 (0, 0))) := ⟨h2_⟩
          have n3_ : Aside0 (w12.heap[gb126]? = some (.cells #[.int .i64 0, .int .i64 0] 25 (0, 0))) := ⟨h3_⟩
          have n4_ : Aside0 (w12.heap[gb135]? = some (.cells #[.int .i64 0, .int .i64 0] 25 (0, 0))) := ⟨h4_⟩
          have n5_ : Aside0 (w.heap.size ≤ gb135) := ⟨h5_⟩
          have n6_ : Aside0 (w.heap.size ≤ gb135) := ⟨h6_⟩
          have n7_ : Aside0 (gb124 ≠ gb135) := ⟨h7_⟩
          have n8_ : Aside0 (gb135 ≠ gb124) := ⟨h8_⟩
          have n9_ : Aside0 (gb125 ≠ gb135) := ⟨h9_⟩
          have n10_ : Aside0 (gb135 ≠ gb125) := ⟨h10_⟩
          have n11_ : Aside0 (gb126 ≠ gb135) := ⟨h11_⟩
          have n12_ : Aside0 (gb135 ≠ gb126) := ⟨h12_⟩
          have n13_ : Aside0 (Below w.heap.size w w12) := ⟨h13_⟩
          clear BK124
          clear BK125
          clear BK126
          clear HB
          clear h0_ h1_ h2_ h3_ h4_ h5_ h6_ h7_ h8_ h9_ h10_ h11_ h12_ h13_
          have HO129 := n0_
          have BK124 := n1_
          have BK125 := n2_
          have BK126 := n3_
          have BK135 := n4_
          have GW135 := n5_
          have GE135 := n6_
          have NB124_135 := n7_
          have NB135_124 := n8_
          have NB125_135 := n9_
          have NB135_125 := n10_
          have NB126_135 := n11_
          have NB135_126 := n12_
          have HB := n13_
          clear n0_ n1_ n2_ n3_ n4_ n5_ n6_ n7_ n8_ n9_ n10_ n11_ n12_ n13_
          have hHeld : w12.cell? ⟨gb124, 0, none⟩ = some (.int .i64 a0_0) ∧ w12.cell? ⟨gb124, 1, none⟩ = some (.int .i64 a0_1) ∧ w12.cell? ⟨gb125, 0, none⟩ = some (.int .i64 a1_0) ∧ w12.cell? ⟨gb125, 1, none⟩ = some (.int .i64 a1_1) := hS_
          obtain ⟨Ao13, co13, eo13⟩ := Kd.R_slice HO129.out
          (first | subst eo13 | (injection eo13 with f1_ f2_ f3_; have f4_ := f1_.symm; have f5_ := f3_.symm; clear f1_ f2_ f3_; subst f4_; subst f5_))
          refine norm_ (a' := ?_) ?_ ?_
          rotate_left
          ·
           simp only [putAll, Act.put, List.setIfInBounds_toArray, List.set_cons_zero, List.set_cons_succ]
           rfl
          refine two_ (i := 5) (j := 10) (Ni := some 12) (Nj := some 17) #[true, true, true, true, true, true, true, true, true, true, false, false, false, true, false] #[true, true, true, true, true, false, true, true, true, true, true, false, false, true, false] rfl rfl rfl rfl (two_of HT_.out (by kernel_rfl)) (by decide) (by decide) (fun K hK => ?_) (fun K hK => ?_)
          ·
           skip
           refine goes_ Try.func28 (by kernel_rfl) rfl #[.int .i64 a0_0, .slice Ao13 y127.length co13] (by rfl) rfl rfl (by (try simp only [List.map_toArray, List.map_cons, List.map_nil]); first | done | rfl | (simp only [List.length_drop, List.length_take]; rfl)) ?_
           with_reducible refine (span_latest.calls k a0_0 _ _ y127 t130 _ ?side1 ?side2 A3.out).mono ?_
           (case side1 => repeat (first | exact (Kd.R_reads' HO129.out).2.2 | (with_reducible refine Kd.C_alloc ?_ _) | (with_reducible refine Kd.C_drewN ?_ _) | (with_reducible refine Kd.C_drew ?_)))
           (case side2 => exact (Kd.R_reads' HO129.out).2.1)
           rintro e w14 ⟨rfl, hb⟩
           refine ⟨_, rfl, ?_⟩
           have n0_ := Aside0.mk (Kd.R_below (rq HO129.out) hb)
           have n1_ := Aside0.mk (blk_below (bg BK124.out) hb)
           have n2_ := Aside0.mk (blk_below (bg BK125.out) hb)
           have n3_ := Aside0.mk (blk_below (bg BK126.out) hb)
           have n4_ := Aside0.mk (blk_below (bg BK135.out) hb)
           have n5_ := Aside0.mk (below_step (bs HB.out) hb)
           clear HO129
           clear BK124
           clear BK125
           clear BK126
           clear BK135
           clear HB
           have HO129 := n0_
           have BK124 := n1_
           have BK125 := n2_
           have BK126 := n3_
           have BK135 := n4_
           have HB := n5_
           clear n0_ n1_ n2_ n3_ n4_ n5_
           (try clear hb)
           (try clear hb2)
           (try clear hk)
           (try clear hi)
           refine hK.out _ _ ⟨(blk_cell BK124.out 0).trans rfl, (blk_cell BK124.out 1).trans rfl, (blk_cell BK125.out 0).trans rfl, (blk_cell BK125.out 1).trans rfl⟩ (fun hHeld => ?_)
           clear hK K
           refine norm_ (a' := ?_) ?_ ?_
           rotate_left
           ·
            show Act.put _ (some 12) _ = _
            simp only [Act.put, List.setIfInBounds_toArray, List.set_cons_zero, List.set_cons_succ, i64_w, i32_w]
            rfl
           exact norm_ (by first | (simp only [putAll, Act.put, List.setIfInBounds_toArray, List.set_cons_zero, List.set_cons_succ]; done) | (simp only [putAll, Act.put, List.setIfInBounds_toArray, List.set_cons_zero, List.set_cons_succ]; rfl)) (hJ4_5_13 (.slice Ao13 y127.length co13, gb135) _ ⟨hHeld, (rq HO129.out), (bg BK124.out), (bg BK125.out), (bg BK126.out), (bg BK135.out), GW135.out, GE135.out, NB124_135.out, NB135_124.out, NB125_135.out, NB135_125.out, NB126_135.out, NB135_126.out, (bs HB.out)⟩)
          ·
           skip
           refine Kd.R_lit_step (Kd.int .i64) _ 3 ?hg (N := 17) ?hd (xs := ([a1_1] : List Int)) (inner := [.int .i64 a1_1]) (ok := fun _ => True) (okp := fun _ => True) ?hr ?hp (fun _ hk => hk) trivial (Below.refl _ _) (Nat.le_refl _) (by simp) ?_; (case hd => rfl); (case hg => rfl); (case hr => first | (go_simp; done) | (go_simp; rfl)); (case hp => exact (Reps.one (show Kd.M (Kd.int .i64) _ _ _ a1_1 [.int .i64 a1_1] from rfl) (Reps.none _ _)))
           intro v132 w13 ho14 hb hg_ hnew_
           clear hg_ hnew_
           (first | rw [← Ny131.out] at ho14 | (simp only [Int.reduceToNat] at ho14; rw [← Ny131.out] at ho14))
           have n0_ := Aside0.mk (Kd.R_elder' (rq HO129.out) (Kd.R_base ho14) hb)
           have n1_ := Aside0.mk (Kd.R_lower (Kd.R_new' ho14 (Kd.R_lt (rq HO129.out))) (below_size (bs HB.out)))
           have n2_ := Aside0.mk (blk_below (bg BK124.out) hb)
           have n3_ := Aside0.mk (blk_below (bg BK125.out) hb)
           have n4_ := Aside0.mk (blk_below (bg BK126.out) hb)
           have n5_ := Aside0.mk (blk_below (bg BK135.out) hb)
           have n6_ := Aside0.mk (below_step (bs HB.out) hb)
           clear HO129
           clear BK124
           clear BK125
           clear BK126
           clear BK135
           clear HB
           have HO129 := n0_
           have HO133 := n1_
           have BK124 := n2_
           have BK125 := n3_
           have BK126 := n4_
           have BK135 := n5_
           have HB := n6_
           clear n0_ n1_ n2_ n3_ n4_ n5_ n6_
           clear hb ho14
           refine hK.out _ _ ⟨(blk_cell BK124.out 0).trans rfl, (blk_cell BK124.out 1).trans rfl, (blk_cell BK125.out 0).trans rfl, (blk_cell BK125.out 1).trans rfl⟩ (fun hHeld => ?_)
           clear hK K
           refine norm_ (a' := ?_) ?_ ?_
           rotate_left
           ·
            show Act.put _ (some 17) _ = _
            simp only [Act.put, List.setIfInBounds_toArray, List.set_cons_zero, List.set_cons_succ, i64_w, i32_w]
            rfl
           exact norm_ (by first | (simp only [putAll, Act.put, List.setIfInBounds_toArray, List.set_cons_zero, List.set_cons_succ]; done) | (simp only [putAll, Act.put, List.setIfInBounds_toArray, List.set_cons_zero, List.set_cons_succ]; rfl)) (hJ4_10_13 ((.slice Ao13 y127.length co13), v132, gb135) _ ⟨hHeld, (by (with_reducible repeat (first | apply Kd.R_alloc | apply Kd.R_drewN | apply Kd.R_drew)); exact Kd.R_mono HO129.out (fun _ hk => hk.2)), (by (with_reducible repeat (first | apply Kd.R_alloc | apply Kd.R_drewN | apply Kd.R_drew)); exact Kd.R_mono HO133.out (fun _ hk => hk.2)), (bg BK124.out), (bg BK125.out), (bg BK126.out), (bg BK135.out), GW135.out, GE135.out, NB124_135.out, NB135_124.out, NB125_135.out, NB135_125.out, NB126_135.out, NB135_126.out, (bs HB.out)⟩)
        ·
         skip
         rintro ⟨v128, v132⟩ w13 ⟨hS_, h0_, h1_, h2_, h3_, h4_, h5_⟩
         have n0_ : Aside0 (Kd.R (Kd.int .i64) 3 w13 w.heap.size (fun k_ => some k_ ≠ (v132 : Value).ownBlock) v128 y127) := ⟨h0_⟩
         have n1_ : Aside0 (Kd.R (Kd.int .i64) 3 w13 w.heap.size (fun k_ => some k_ ≠ (v128 : Value).ownBlock) v132 y131) := ⟨h1_⟩
         have n2_ : Aside0 (w13.heap[gb124]? = some (.cells #[.int .i64 a0_0, .int .i64 a0_1] 25 (0, 0))) := ⟨h2_⟩
         have n3_ : Aside0 (w13.heap[gb125]? = some (.cells #[.int .i64 a1_0, .int .i64 a1_1] 25 (0, 0))) := ⟨h3_⟩
         have n4_ : Aside0 (w13.heap[gb126]? = some (.cells #[.int .i64 0, .int .i64 0] 25 (0, 0))) := ⟨h4_⟩
         have n5_ : Aside0 (Below w.heap.size w w13) := ⟨h5_⟩
         clear BK124
         clear BK125
         clear BK126
         clear HB
         clear h0_ h1_ h2_ h3_ h4_ h5_
         have HO129 := n0_
         have HO133 := n1_
         have BK124 := n2_
         have BK125 := n3_
         have BK126 := n4_
         have HB := n5_
         clear n0_ n1_ n2_ n3_ n4_ n5_
         have hHeld : w13.cell? ⟨gb124, 0, none⟩ = some (.int .i64 a0_0) ∧ w13.cell? ⟨gb124, 1, none⟩ = some (.int .i64 a0_1) ∧ w13.cell? ⟨gb125, 0, none⟩ = some (.int .i64 a1_0) ∧ w13.cell? ⟨gb125, 1, none⟩ = some (.int .i64 a1_1) := hS_
         obtain ⟨Ao14, co14, eo14⟩ := Kd.R_slice HO129.out
         (first | subst eo14 | (injection eo14 with f1_ f2_ f3_; have f4_ := f1_.symm; have f5_ := f3_.symm; clear f1_ f2_ f3_; subst f4_; subst f5_))
         refine norm_ (a' := ?_) ?_ ?_
         rotate_left
         ·
          simp only [putAll, Act.put, List.setIfInBounds_toArray, List.set_cons_zero, List.set_cons_succ]
          rfl
         refine two_ (i := 5) (j := 13) (Ni := some 12) (Nj := some 6) (bsq 11 4) #[true, true, true, true, true, false, true, true, true, true, true, false, false, true, false] rfl rfl rfl rfl (two_of HT_.out (by kernel_rfl)) (by decide) (by decide) (fun K hK => ?_) (fun K hK => ?_)
         ·
          skip
          refine goes_ Try.func28 (by kernel_rfl) rfl #[.int .i64 a0_0, .slice Ao14 y127.length co14] (by rfl) rfl rfl (by (try simp only [List.map_toArray, List.map_cons, List.map_nil]); first | done | rfl | (simp only [List.length_drop, List.length_take]; rfl)) ?_
          with_reducible refine (span_latest.calls k a0_0 _ _ y127 t130 _ ?side1 ?side2 A3.out).mono ?_
          (case side1 => repeat (first | exact (Kd.R_reads' HO129.out).2.2 | (with_reducible refine Kd.C_alloc ?_ _) | (with_reducible refine Kd.C_drewN ?_ _) | (with_reducible refine Kd.C_drew ?_)))
          (case side2 => exact (Kd.R_reads' HO129.out).2.1)
          rintro e w15 ⟨rfl, hb⟩
          refine ⟨_, rfl, ?_⟩
          have n0_ := Aside0.mk (Kd.R_below (rq HO129.out) hb)
          have n1_ := Aside0.mk (Kd.R_below (rq HO133.out) hb)
          have n2_ := Aside0.mk (blk_below (bg BK124.out) hb)
          have n3_ := Aside0.mk (blk_below (bg BK125.out) hb)
          have n4_ := Aside0.mk (blk_below (bg BK126.out) hb)
          have n5_ := Aside0.mk (below_step (bs HB.out) hb)
          clear HO129
          clear HO133
          clear BK124
          clear BK125
          clear BK126
          clear HB
          have HO129 := n0_
          have HO133 := n1_
          have BK124 := n2_
          have BK125 := n3_
          have BK126 := n4_
          have HB := n5_
          clear n0_ n1_ n2_ n3_ n4_ n5_
          (try clear hb)
          (try clear hb2)
          (try clear hk)
          (try clear hi)
          refine hK.out _ _ ⟨(blk_cell BK124.out 0).trans rfl, (blk_cell BK124.out 1).trans rfl, (blk_cell BK125.out 0).trans rfl, (blk_cell BK125.out 1).trans rfl⟩ (fun hHeld => ?_)
          clear hK K
          refine norm_ (a' := ?_) ?_ ?_
          rotate_left
          ·
           show Act.put _ (some 12) _ = _
           simp only [Act.put, List.setIfInBounds_toArray, List.set_cons_zero, List.set_cons_succ, i64_w, i32_w]
           rfl
          exact norm_ (by first | (simp only [putAll, Act.put, List.setIfInBounds_toArray, List.set_cons_zero, List.set_cons_succ]; done) | (simp only [putAll, Act.put, List.setIfInBounds_toArray, List.set_cons_zero, List.set_cons_succ]; rfl)) (hJ4_5_10 (.slice Ao14 y127.length co14, v132) _ ⟨hHeld, (rq HO129.out), (rq HO133.out), (bg BK124.out), (bg BK125.out), (bg BK126.out), (bs HB.out)⟩)
         ·
          skip
          refine box_step ?hg (N := 6) ?hd (cs := #[.int .i64 0, .int .i64 0]) (t := 25) ?hr ?_; (case hd => rfl); (case hg => rfl); (case hr => first | (go_simp; done) | (go_simp; rfl))
          intro gb135 hg w14 hbox hb
          have n0_ := Aside0.mk (Kd.R_below (rq HO129.out) hb)
          have n1_ := Aside0.mk (Kd.R_below (rq HO133.out) hb)
          have n2_ := Aside0.mk (blk_below (bg BK124.out) hb)
          have n3_ := Aside0.mk (blk_below (bg BK125.out) hb)
          have n4_ := Aside0.mk (blk_below (bg BK126.out) hb)
          have n5_ := Aside0.mk (below_step (bs HB.out) hb)
          have n6_ := Aside0.mk (hbox)
          have n7_ := Aside0.mk ((by rw [hg]; exact (below_size (bs HB.out)) : w.heap.size ≤ gb135))
          have n8_ := Aside0.mk ((by rw [hg]; exact (below_size (bs HB.out)) : w.heap.size ≤ gb135))
          have n9_ := Aside0.mk ((by rw [hg]; exact Nat.ne_of_lt (blk_lt (bg BK124.out)) : gb124 ≠ gb135))
          have n10_ := Aside0.mk ((by rw [hg]; exact Nat.ne_of_gt (blk_lt (bg BK124.out)) : gb135 ≠ gb124))
          have n11_ := Aside0.mk ((by rw [hg]; exact Nat.ne_of_lt (blk_lt (bg BK125.out)) : gb125 ≠ gb135))
          have n12_ := Aside0.mk ((by rw [hg]; exact Nat.ne_of_gt (blk_lt (bg BK125.out)) : gb135 ≠ gb125))
          have n13_ := Aside0.mk ((by rw [hg]; exact Nat.ne_of_lt (blk_lt (bg BK126.out)) : gb126 ≠ gb135))
          have n14_ := Aside0.mk ((by rw [hg]; exact Nat.ne_of_gt (blk_lt (bg BK126.out)) : gb135 ≠ gb126))
          clear HO129
          clear HO133
          clear BK124
          clear BK125
          clear BK126
          clear HB
          have HO129 := n0_
          have HO133 := n1_
          have BK124 := n2_
          have BK125 := n3_
          have BK126 := n4_
          have HB := n5_
          have BK135 := n6_
          have GW135 := n7_
          have GE135 := n8_
          have NB124_135 := n9_
          have NB135_124 := n10_
          have NB125_135 := n11_
          have NB135_125 := n12_
          have NB126_135 := n13_
          have NB135_126 := n14_
          clear n0_ n1_ n2_ n3_ n4_ n5_ n6_ n7_ n8_ n9_ n10_ n11_ n12_ n13_ n14_
          clear hb hbox hg
          refine hK.out _ _ ⟨(blk_cell BK124.out 0).trans rfl, (blk_cell BK124.out 1).trans rfl, (blk_cell BK125.out 0).trans rfl, (blk_cell BK125.out 1).trans rfl⟩ (fun hHeld => ?_)
          clear hK K
          refine norm_ (a' := ?_) ?_ ?_
          rotate_left
          ·
           show Act.put _ (some 6) _ = _
           simp only [Act.put, List.setIfInBounds_toArray, List.set_cons_zero, List.set_cons_succ, i64_w, i32_w]
           rfl
          exact norm_ (by first | (simp only [putAll, Act.put, List.setIfInBounds_toArray, List.set_cons_zero, List.set_cons_succ]; done) | (simp only [putAll, Act.put, List.setIfInBounds_toArray, List.set_cons_zero, List.set_cons_succ]; rfl)) (hJ4_10_13 ((.slice Ao14 y127.length co14), v132, gb135) _ ⟨hHeld, (rq HO129.out), (rq HO133.out), (bg BK124.out), (bg BK125.out), (bg BK126.out), (bg BK135.out), GW135.out, GE135.out, NB124_135.out, NB135_124.out, NB125_135.out, NB135_125.out, NB126_135.out, NB135_126.out, (bs HB.out)⟩)
       ·
        skip
        rintro v128 w13 ⟨hS_, h0_, h1_, h2_, h3_, h4_⟩
        have n0_ : Aside0 (Kd.R (Kd.int .i64) 3 w13 w.heap.size (fun _ => True) v128 y127) := ⟨h0_⟩
        have n1_ : Aside0 (w13.heap[gb124]? = some (.cells #[.int .i64 a0_0, .int .i64 a0_1] 25 (0, 0))) := ⟨h1_⟩
        have n2_ : Aside0 (w13.heap[gb125]? = some (.cells #[.int .i64 a1_0, .int .i64 a1_1] 25 (0, 0))) := ⟨h2_⟩
        have n3_ : Aside0 (w13.heap[gb126]? = some (.cells #[.int .i64 0, .int .i64 0] 25 (0, 0))) := ⟨h3_⟩
        have n4_ : Aside0 (Below w.heap.size w w13) := ⟨h4_⟩
        clear BK124
        clear BK125
        clear BK126
        clear HB
        clear h0_ h1_ h2_ h3_ h4_
        have HO129 := n0_
        have BK124 := n1_
        have BK125 := n2_
        have BK126 := n3_
        have HB := n4_
        clear n0_ n1_ n2_ n3_ n4_
        have hHeld : w13.cell? ⟨gb124, 0, none⟩ = some (.int .i64 a0_0) ∧ w13.cell? ⟨gb124, 1, none⟩ = some (.int .i64 a0_1) ∧ w13.cell? ⟨gb125, 0, none⟩ = some (.int .i64 a1_0) ∧ w13.cell? ⟨gb125, 1, none⟩ = some (.int .i64 a1_1) := hS_
        refine norm_ (a' := ?_) ?_ ?_
        rotate_left
        ·
         simp only [putAll, Act.put, List.setIfInBounds_toArray, List.set_cons_zero, List.set_cons_succ]
         rfl
        refine two_ (i := 10) (j := 13) (Ni := some 17) (Nj := some 6) (bsq 11 4) #[true, true, true, true, true, true, true, true, true, true, false, false, false, true, false] rfl rfl rfl rfl (two_of HT_.out (by kernel_rfl)) (by decide) (by decide) (fun K hK => ?_) (fun K hK => ?_)
        ·
         skip
         refine Kd.R_lit_step (Kd.int .i64) _ 3 ?hg (N := 17) ?hd (xs := ([a1_1] : List Int)) (inner := [.int .i64 a1_1]) (ok := fun _ => True) (okp := fun _ => True) ?hr ?hp (fun _ hk => hk) trivial (Below.refl _ _) (Nat.le_refl _) (by simp) ?_; (case hd => rfl); (case hg => rfl); (case hr => first | (go_simp; done) | (go_simp; rfl)); (case hp => exact (Reps.one (show Kd.M (Kd.int .i64) _ _ _ a1_1 [.int .i64 a1_1] from rfl) (Reps.none _ _)))
         intro v132 w14 ho15 hb hg_ hnew_
         clear hg_ hnew_
         (first | rw [← Ny131.out] at ho15 | (simp only [Int.reduceToNat] at ho15; rw [← Ny131.out] at ho15))
         have n0_ := Aside0.mk (Kd.R_elder' (rq HO129.out) (Kd.R_base ho15) hb)
         have n1_ := Aside0.mk (Kd.R_lower (Kd.R_new' ho15 (Kd.R_lt (rq HO129.out))) (below_size (bs HB.out)))
         have n2_ := Aside0.mk (blk_below (bg BK124.out) hb)
         have n3_ := Aside0.mk (blk_below (bg BK125.out) hb)
         have n4_ := Aside0.mk (blk_below (bg BK126.out) hb)
         have n5_ := Aside0.mk (below_step (bs HB.out) hb)
         clear HO129
         clear BK124
         clear BK125
         clear BK126
         clear HB
         have HO129 := n0_
         have HO133 := n1_
         have BK124 := n2_
         have BK125 := n3_
         have BK126 := n4_
         have HB := n5_
         clear n0_ n1_ n2_ n3_ n4_ n5_
         clear hb ho15
         refine hK.out _ _ ⟨(blk_cell BK124.out 0).trans rfl, (blk_cell BK124.out 1).trans rfl, (blk_cell BK125.out 0).trans rfl, (blk_cell BK125.out 1).trans rfl⟩ (fun hHeld => ?_)
         clear hK K
         refine norm_ (a' := ?_) ?_ ?_
         rotate_left
         ·
          show Act.put _ (some 17) _ = _
          simp only [Act.put, List.setIfInBounds_toArray, List.set_cons_zero, List.set_cons_succ, i64_w, i32_w]
          rfl
         exact norm_ (by first | (simp only [putAll, Act.put, List.setIfInBounds_toArray, List.set_cons_zero, List.set_cons_succ]; done) | (simp only [putAll, Act.put, List.setIfInBounds_toArray, List.set_cons_zero, List.set_cons_succ]; rfl)) (hJ4_5_10 (v128, v132) _ ⟨hHeld, (by (with_reducible repeat (first | apply Kd.R_alloc | apply Kd.R_drewN | apply Kd.R_drew)); exact Kd.R_mono HO129.out (fun _ hk => hk.2)), (by (with_reducible repeat (first | apply Kd.R_alloc | apply Kd.R_drewN | apply Kd.R_drew)); exact Kd.R_mono HO133.out (fun _ hk => hk.2)), (bg BK124.out), (bg BK125.out), (bg BK126.out), (bs HB.out)⟩)
        ·
         skip
         refine box_step ?hg (N := 6) ?hd (cs := #[.int .i64 0, .int .i64 0]) (t := 25) ?hr ?_; (case hd => rfl); (case hg => rfl); (case hr => first | (go_simp; done) | (go_simp; rfl))
         intro gb135 hg w14 hbox hb
         have n0_ := Aside0.mk (Kd.R_below (rq HO129.out) hb)
         have n1_ := Aside0.mk (blk_below (bg BK124.out) hb)
         have n2_ := Aside0.mk (blk_below (bg BK125.out) hb)
         have n3_ := Aside0.mk (blk_below (bg BK126.out) hb)
         have n4_ := Aside0.mk (below_step (bs HB.out) hb)
         have n5_ := Aside0.mk (hbox)
         have n6_ := Aside0.mk ((by rw [hg]; exact (below_size (bs HB.out)) : w.heap.size ≤ gb135))
         have n7_ := Aside0.mk ((by rw [hg]; exact (below_size (bs HB.out)) : w.heap.size ≤ gb135))
         have n8_ := Aside0.mk ((by rw [hg]; exact Nat.ne_of_lt (blk_lt (bg BK124.out)) : gb124 ≠ gb135))
         have n9_ := Aside0.mk ((by rw [hg]; exact Nat.ne_of_gt (blk_lt (bg BK124.out)) : gb135 ≠ gb124))
         have n10_ := Aside0.mk ((by rw [hg]; exact Nat.ne_of_lt (blk_lt (bg BK125.out)) : gb125 ≠ gb135))
         have n11_ := Aside0.mk ((by rw [hg]; exact Nat.ne_of_gt (blk_lt (bg BK125.out)) : gb135 ≠ gb125))
         have n12_ := Aside0.mk ((by rw [hg]; exact Nat.ne_of_lt (blk_lt (bg BK126.out)) : gb126 ≠ gb135))
         have n13_ := Aside0.mk ((by rw [hg]; exact Nat.ne_of_gt (blk_lt (bg BK126.out)) : gb135 ≠ gb126))
         clear HO129
         clear BK124
         clear BK125
         clear BK126
         clear HB
         have HO129 := n0_
         have BK124 := n1_
         have BK125 := n2_
         have BK126 := n3_
         have HB := n4_
         have BK135 := n5_
         have GW135 := n6_
         have GE135 := n7_
         have NB124_135 := n8_
         have NB135_124 := n9_
         have NB125_135 := n10_
         have NB135_125 := n11_
         have NB126_135 := n12_
         have NB135_126 := n13_
         clear n0_ n1_ n2_ n3_ n4_ n5_ n6_ n7_ n8_ n9_ n10_ n11_ n12_ n13_
         clear hb hbox hg
         refine hK.out _ _ ⟨(blk_cell BK124.out 0).trans rfl, (blk_cell BK124.out 1).trans rfl, (blk_cell BK125.out 0).trans rfl, (blk_cell BK125.out 1).trans rfl⟩ (fun hHeld => ?_)
         clear hK K
         refine norm_ (a' := ?_) ?_ ?_
         rotate_left
         ·
          show Act.put _ (some 6) _ = _
          simp only [Act.put, List.setIfInBounds_toArray, List.set_cons_zero, List.set_cons_succ, i64_w, i32_w]
          rfl
         exact norm_ (by first | (simp only [putAll, Act.put, List.setIfInBounds_toArray, List.set_cons_zero, List.set_cons_succ]; done) | (simp only [putAll, Act.put, List.setIfInBounds_toArray, List.set_cons_zero, List.set_cons_succ]; rfl)) (hJ4_5_13 (v128, gb135) _ ⟨hHeld, (rq HO129.out), (bg BK124.out), (bg BK125.out), (bg BK126.out), (bg BK135.out), GW135.out, GE135.out, NB124_135.out, NB135_124.out, NB125_135.out, NB135_125.out, NB126_135.out, NB135_126.out, (bs HB.out)⟩)
      ·
       skip
       rintro ⟨v128, v132, gb135⟩ w14 ⟨hS_, h0_, h1_, h2_, h3_, h4_, h5_, h6_, h7_, h8_, h9_, h10_, h11_, h12_, h13_, h14_⟩
       have n0_ : Aside0 (Kd.R (Kd.int .i64) 3 w14 w.heap.size (fun k_ => some k_ ≠ (v132 : Value).ownBlock) v128 y127) := ⟨h0_⟩
       have n1_ : Aside0 (Kd.R (Kd.int .i64) 3 w14 w.heap.size (fun k_ => some k_ ≠ (v128 : Value).ownBlock) v132 y131) := ⟨h1_⟩
       have n2_ : Aside0 (w14.heap[gb124]? = some (.cells #[.int .i64 a0_0, .int .i64 a0_1] 25 (0, 0))) := ⟨h2_⟩
       have n3_ : Aside0 (w14.heap[gb125]? = some (.cells #[.int .i64 a1_0, .int .i64 a1_1] 25 (0, 0))) := ⟨h3_⟩
       have n4_ : Aside0 (w14.heap[gb126]? = some (.cells #[.int .i64 0, .int .i64 0] 25 (0, 0))) := ⟨h4_⟩
       have n5_ : Aside0 (w14.heap[gb135]? = some (.cells #[.int .i64 0, .int .i64 0] 25 (0, 0))) := ⟨h5_⟩
       have n6_ : Aside0 (w.heap.size ≤ gb135) := ⟨h6_⟩
       have n7_ : Aside0 (w.heap.size ≤ gb135) := ⟨h7_⟩
       have n8_ : Aside0 (gb124 ≠ gb135) := ⟨h8_⟩
       have n9_ : Aside0 (gb135 ≠ gb124) := ⟨h9_⟩
       have n10_ : Aside0 (gb125 ≠ gb135) := ⟨h10_⟩
       have n11_ : Aside0 (gb135 ≠ gb125) := ⟨h11_⟩
       have n12_ : Aside0 (gb126 ≠ gb135) := ⟨h12_⟩
       have n13_ : Aside0 (gb135 ≠ gb126) := ⟨h13_⟩
       have n14_ : Aside0 (Below w.heap.size w w14) := ⟨h14_⟩
       clear BK124
       clear BK125
       clear BK126
       clear HB
       clear h0_ h1_ h2_ h3_ h4_ h5_ h6_ h7_ h8_ h9_ h10_ h11_ h12_ h13_ h14_
       have HO129 := n0_
       have HO133 := n1_
       have BK124 := n2_
       have BK125 := n3_
       have BK126 := n4_
       have BK135 := n5_
       have GW135 := n6_
       have GE135 := n7_
       have NB124_135 := n8_
       have NB135_124 := n9_
       have NB125_135 := n10_
       have NB135_125 := n11_
       have NB126_135 := n12_
       have NB135_126 := n13_
       have HB := n14_
       clear n0_ n1_ n2_ n3_ n4_ n5_ n6_ n7_ n8_ n9_ n10_ n11_ n12_ n13_ n14_
       have hHeld : w14.cell? ⟨gb124, 0, none⟩ = some (.int .i64 a0_0) ∧ w14.cell? ⟨gb124, 1, none⟩ = some (.int .i64 a0_1) ∧ w14.cell? ⟨gb125, 0, none⟩ = some (.int .i64 a1_0) ∧ w14.cell? ⟨gb125, 1, none⟩ = some (.int .i64 a1_1) := hS_
       obtain ⟨Ao15, co15, eo15⟩ := Kd.R_slice HO129.out
       (first | subst eo15 | (injection eo15 with f1_ f2_ f3_; have f4_ := f1_.symm; have f5_ := f3_.symm; clear f1_ f2_ f3_; subst f4_; subst f5_))
       refine norm_ (a' := ?_) ?_ ?_
       rotate_left
       ·
        simp only [putAll, Act.put, List.setIfInBounds_toArray, List.set_cons_zero, List.set_cons_succ]
        rfl
       refine one_ (i := 5) (N := some 12) #[true, true, true, true, true, true, true, true, true, true, true, false, false, true, false] rfl rfl (one_of HT_.out (by kernel_rfl)) (by decide) (fun K hK => ?_)
       refine goes_ Try.func28 (by kernel_rfl) rfl #[.int .i64 a0_0, .slice Ao15 y127.length co15] (by rfl) rfl rfl (by (try simp only [List.map_toArray, List.map_cons, List.map_nil]); first | done | rfl | (simp only [List.length_drop, List.length_take]; rfl)) ?_
       with_reducible refine (span_latest.calls k a0_0 _ _ y127 t130 _ ?side1 ?side2 A3.out).mono ?_
       (case side1 => repeat (first | exact (Kd.R_reads' HO129.out).2.2 | (with_reducible refine Kd.C_alloc ?_ _) | (with_reducible refine Kd.C_drewN ?_ _) | (with_reducible refine Kd.C_drew ?_)))
       (case side2 => exact (Kd.R_reads' HO129.out).2.1)
       rintro e w16 ⟨rfl, hb⟩
       refine ⟨_, rfl, ?_⟩
       have n0_ := Aside0.mk (Kd.R_below (rq HO129.out) hb)
       have n1_ := Aside0.mk (Kd.R_below (rq HO133.out) hb)
       have n2_ := Aside0.mk (blk_below (bg BK124.out) hb)
       have n3_ := Aside0.mk (blk_below (bg BK125.out) hb)
       have n4_ := Aside0.mk (blk_below (bg BK126.out) hb)
       have n5_ := Aside0.mk (blk_below (bg BK135.out) hb)
       have n6_ := Aside0.mk (below_step (bs HB.out) hb)
       clear HO129
       clear HO133
       clear BK124
       clear BK125
       clear BK126
       clear BK135
       clear HB
       have HO129 := n0_
       have HO133 := n1_
       have BK124 := n2_
       have BK125 := n3_
       have BK126 := n4_
       have BK135 := n5_
       have HB := n6_
       clear n0_ n1_ n2_ n3_ n4_ n5_ n6_
       (try clear hb)
       (try clear hb2)
       (try clear hk)
       (try clear hi)
       refine hK.out _ _ ⟨(blk_cell BK124.out 0).trans rfl, (blk_cell BK124.out 1).trans rfl, (blk_cell BK125.out 0).trans rfl, (blk_cell BK125.out 1).trans rfl⟩ (fun hHeld => ?_)
       clear hK K
       refine norm_ (a' := ?_) ?_ ?_
       rotate_left
       ·
        show Act.put _ (some 12) _ = _
        simp only [Act.put, List.setIfInBounds_toArray, List.set_cons_zero, List.set_cons_succ, i64_w, i32_w]
        rfl
       exact norm_ (by first | (simp only [putAll, Act.put, List.setIfInBounds_toArray, List.set_cons_zero, List.set_cons_succ]; done) | (simp only [putAll, Act.put, List.setIfInBounds_toArray, List.set_cons_zero, List.set_cons_succ]; rfl)) (hJ4_5_10_13 (.slice Ao15 y127.length co15, v132, gb135) _ ⟨hHeld, (rq HO129.out), (rq HO133.out), (bg BK124.out), (bg BK125.out), (bg BK126.out), (bg BK135.out), GW135.out, GE135.out, NB124_135.out, NB135_124.out, NB125_135.out, NB135_125.out, NB126_135.out, NB135_126.out, (bs HB.out)⟩)
     ·
      skip
      rintro ⟨v128, gb135⟩ w14 ⟨hS_, h0_, h1_, h2_, h3_, h4_, h5_, h6_, h7_, h8_, h9_, h10_, h11_, h12_, h13_⟩
      have n0_ : Aside0 (Kd.R (Kd.int .i64) 3 w14 w.heap.size (fun _ => True) v128 y127) := ⟨h0_⟩
      have n1_ : Aside0 (w14.heap[gb124]? = some (.cells #[.int .i64 a0_0, .int .i64 a0_1] 25 (0, 0))) := ⟨h1_⟩
      have n2_ : Aside0 (w14.heap[gb125]? = some (.cells #[.int .i64 a1_0, .int .i64 a1_1] 25 (0, 0))) := ⟨h2_⟩
      have n3_ : Aside0 (w14.heap[gb126]? = some (.cells #[.int .i64 0, .int .i64 0] 25 (0, 0))) := ⟨h3_⟩
      have n4_ : Aside0 (w14.heap[gb135]? = some (.cells #[.int .i64 0, .int .i64 0] 25 (0, 0))) := ⟨h4_⟩
      have n5_ : Aside0 (w.heap.size ≤ gb135) := ⟨h5_⟩
      have n6_ : Aside0 (w.heap.size ≤ gb135) := ⟨h6_⟩
      have n7_ : Aside0 (gb124 ≠ gb135) := ⟨h7_⟩
      have n8_ : Aside0 (gb135 ≠ gb124) := ⟨h8_⟩
      have n9_ : Aside0 (gb125 ≠ gb135) := ⟨h9_⟩
      have n10_ : Aside0 (gb135 ≠ gb125) := ⟨h10_⟩
      have n11_ : Aside0 (gb126 ≠ gb135) := ⟨h11_⟩
      have n12_ : Aside0 (gb135 ≠ gb126) := ⟨h12_⟩
      have n13_ : Aside0 (Below w.heap.size w w14) := ⟨h13_⟩
      clear BK124
      clear BK125
      clear BK126
      clear HB
      clear h0_ h1_ h2_ h3_ h4_ h5_ h6_ h7_ h8_ h9_ h10_ h11_ h12_ h13_
      have HO129 := n0_
      have BK124 := n1_
      have BK125 := n2_
      have BK126 := n3_
      have BK135 := n4_
      have GW135 := n5_
      have GE135 := n6_
      have NB124_135 := n7_
      have NB135_124 := n8_
      have NB125_135 := n9_
      have NB135_125 := n10_
      have NB126_135 := n11_
      have NB135_126 := n12_
      have HB := n13_
      clear n0_ n1_ n2_ n3_ n4_ n5_ n6_ n7_ n8_ n9_ n10_ n11_ n12_ n13_
      have hHeld : w14.cell? ⟨gb124, 0, none⟩ = some (.int .i64 a0_0) ∧ w14.cell? ⟨gb124, 1, none⟩ = some (.int .i64 a0_1) ∧ w14.cell? ⟨gb125, 0, none⟩ = some (.int .i64 a1_0) ∧ w14.cell? ⟨gb125, 1, none⟩ = some (.int .i64 a1_1) := hS_
      refine norm_ (a' := ?_) ?_ ?_
      rotate_left
      ·
       simp only [putAll, Act.put, List.setIfInBounds_toArray, List.set_cons_zero, List.set_cons_succ]
       rfl
      refine one_ (i := 10) (N := some 17) #[true, true, true, true, true, true, true, true, true, true, true, false, false, true, false] rfl rfl (one_of HT_.out (by kernel_rfl)) (by decide) (fun K hK => ?_)
      refine Kd.R_lit_step (Kd.int .i64) _ 3 ?hg (N := 17) ?hd (xs := ([a1_1] : List Int)) (inner := [.int .i64 a1_1]) (ok := fun _ => True) (okp := fun _ => True) ?hr ?hp (fun _ hk => hk) trivial (Below.refl _ _) (Nat.le_refl _) (by simp) ?_; (case hd => rfl); (case hg => rfl); (case hr => first | (go_simp; done) | (go_simp; rfl)); (case hp => exact (Reps.one (show Kd.M (Kd.int .i64) _ _ _ a1_1 [.int .i64 a1_1] from rfl) (Reps.none _ _)))
      intro v132 w15 ho16 hb hg_ hnew_
      clear hg_ hnew_
      (first | rw [← Ny131.out] at ho16 | (simp only [Int.reduceToNat] at ho16; rw [← Ny131.out] at ho16))
      have n0_ := Aside0.mk (Kd.R_elder' (rq HO129.out) (Kd.R_base ho16) hb)
      have n1_ := Aside0.mk (Kd.R_lower (Kd.R_new' ho16 (Kd.R_lt (rq HO129.out))) (below_size (bs HB.out)))
      have n2_ := Aside0.mk (blk_below (bg BK124.out) hb)
      have n3_ := Aside0.mk (blk_below (bg BK125.out) hb)
      have n4_ := Aside0.mk (blk_below (bg BK126.out) hb)
      have n5_ := Aside0.mk (blk_below (bg BK135.out) hb)
      have n6_ := Aside0.mk (below_step (bs HB.out) hb)
      clear HO129
      clear BK124
      clear BK125
      clear BK126
      clear BK135
      clear HB
      have HO129 := n0_
      have HO133 := n1_
      have BK124 := n2_
      have BK125 := n3_
      have BK126 := n4_
      have BK135 := n5_
      have HB := n6_
      clear n0_ n1_ n2_ n3_ n4_ n5_ n6_
      clear hb ho16
      refine hK.out _ _ ⟨(blk_cell BK124.out 0).trans rfl, (blk_cell BK124.out 1).trans rfl, (blk_cell BK125.out 0).trans rfl, (blk_cell BK125.out 1).trans rfl⟩ (fun hHeld => ?_)
      clear hK K
      refine norm_ (a' := ?_) ?_ ?_
      rotate_left
      ·
       show Act.put _ (some 17) _ = _
       simp only [Act.put, List.setIfInBounds_toArray, List.set_cons_zero, List.set_cons_succ, i64_w, i32_w]
       rfl
      exact norm_ (by first | (simp only [putAll, Act.put, List.setIfInBounds_toArray, List.set_cons_zero, List.set_cons_succ]; done) | (simp only [putAll, Act.put, List.setIfInBounds_toArray, List.set_cons_zero, List.set_cons_succ]; rfl)) (hJ4_5_10_13 (v128, v132, gb135) _ ⟨hHeld, (by (with_reducible repeat (first | apply Kd.R_alloc | apply Kd.R_drewN | apply Kd.R_drew)); exact Kd.R_mono HO129.out (fun _ hk => hk.2)), (by (with_reducible repeat (first | apply Kd.R_alloc | apply Kd.R_drewN | apply Kd.R_drew)); exact Kd.R_mono HO133.out (fun _ hk => hk.2)), (bg BK124.out), (bg BK125.out), (bg BK126.out), (bg BK135.out), GW135.out, GE135.out, NB124_135.out, NB135_124.out, NB125_135.out, NB135_125.out, NB126_135.out, NB135_126.out, (bs HB.out)⟩)
    ·
     skip
     rintro ⟨v128, v132⟩ w15 ⟨hS_, h0_, h1_, h2_, h3_, h4_, h5_⟩
     have n0_ : Aside0 (Kd.R (Kd.int .i64) 3 w15 w.heap.size (fun k_ => some k_ ≠ (v132 : Value).ownBlock) v128 y127) := ⟨h0_⟩
     have n1_ : Aside0 (Kd.R (Kd.int .i64) 3 w15 w.heap.size (fun k_ => some k_ ≠ (v128 : Value).ownBlock) v132 y131) := ⟨h1_⟩
     have n2_ : Aside0 (w15.heap[gb124]? = some (.cells #[.int .i64 a0_0, .int .i64 a0_1] 25 (0, 0))) := ⟨h2_⟩
     have n3_ : Aside0 (w15.heap[gb125]? = some (.cells #[.int .i64 a1_0, .int .i64 a1_1] 25 (0, 0))) := ⟨h3_⟩
     have n4_ : Aside0 (w15.heap[gb126]? = some (.cells #[.int .i64 0, .int .i64 0] 25 (0, 0))) := ⟨h4_⟩
     have n5_ : Aside0 (Below w.heap.size w w15) := ⟨h5_⟩
     clear BK124
     clear BK125
     clear BK126
     clear HB
     clear h0_ h1_ h2_ h3_ h4_ h5_
     have HO129 := n0_
     have HO133 := n1_
     have BK124 := n2_
     have BK125 := n3_
     have BK126 := n4_
     have HB := n5_
     clear n0_ n1_ n2_ n3_ n4_ n5_
     have hHeld : w15.cell? ⟨gb124, 0, none⟩ = some (.int .i64 a0_0) ∧ w15.cell? ⟨gb124, 1, none⟩ = some (.int .i64 a0_1) ∧ w15.cell? ⟨gb125, 0, none⟩ = some (.int .i64 a1_0) ∧ w15.cell? ⟨gb125, 1, none⟩ = some (.int .i64 a1_1) := hS_
     obtain ⟨Ao16, co16, eo16⟩ := Kd.R_slice HO133.out
     (first | subst eo16 | (injection eo16 with f1_ f2_ f3_; have f4_ := f1_.symm; have f5_ := f3_.symm; clear f1_ f2_ f3_; subst f4_; subst f5_))
     refine norm_ (a' := ?_) ?_ ?_
     rotate_left
     ·
      simp only [putAll, Act.put, List.setIfInBounds_toArray, List.set_cons_zero, List.set_cons_succ]
      rfl
     refine two_ (i := 11) (j := 13) (Ni := some 18) (Nj := some 6) (bsq 12 3) #[true, true, true, true, true, true, true, true, true, true, true, false, false, true, false] rfl rfl rfl rfl (two_of HT_.out (by kernel_rfl)) (by decide) (by decide) (fun K hK => ?_) (fun K hK => ?_)
     ·
      skip
      refine goes_ Try.func30 (by kernel_rfl) rfl #[.int .i64 a0_1, .slice Ao16 y131.length co16] (by rfl) rfl rfl (by (try simp only [List.map_toArray, List.map_cons, List.map_nil]); first | done | rfl | (simp only [List.length_drop, List.length_take]; rfl)) ?_
      with_reducible refine (span_earliest.calls k a0_1 _ _ y131 t134 _ ?side1 ?side2 A4.out).mono ?_
      (case side1 => repeat (first | exact (Kd.R_reads' HO133.out).2.2 | (with_reducible refine Kd.C_alloc ?_ _) | (with_reducible refine Kd.C_drewN ?_ _) | (with_reducible refine Kd.C_drew ?_)))
      (case side2 => exact (Kd.R_reads' HO133.out).2.1)
      rintro e w17 ⟨rfl, hb⟩
      refine ⟨_, rfl, ?_⟩
      have n0_ := Aside0.mk (Kd.R_below (rq HO129.out) hb)
      have n1_ := Aside0.mk (Kd.R_below (rq HO133.out) hb)
      have n2_ := Aside0.mk (blk_below (bg BK124.out) hb)
      have n3_ := Aside0.mk (blk_below (bg BK125.out) hb)
      have n4_ := Aside0.mk (blk_below (bg BK126.out) hb)
      have n5_ := Aside0.mk (below_step (bs HB.out) hb)
      clear HO129
      clear HO133
      clear BK124
      clear BK125
      clear BK126
      clear HB
      have HO129 := n0_
      have HO133 := n1_
      have BK124 := n2_
      have BK125 := n3_
      have BK126 := n4_
      have HB := n5_
      clear n0_ n1_ n2_ n3_ n4_ n5_
      (try clear hb)
      (try clear hb2)
      (try clear hk)
      (try clear hi)
      refine hK.out _ _ ⟨(blk_cell BK124.out 0).trans rfl, (blk_cell BK124.out 1).trans rfl, (blk_cell BK125.out 0).trans rfl, (blk_cell BK125.out 1).trans rfl⟩ (fun hHeld => ?_)
      clear hK K
      refine norm_ (a' := ?_) ?_ ?_
      rotate_left
      ·
       show Act.put _ (some 18) _ = _
       simp only [Act.put, List.setIfInBounds_toArray, List.set_cons_zero, List.set_cons_succ, i64_w, i32_w]
       rfl
      refine pu 12 19 (bsq 13 2) ?_
      exact norm_ (by first | (simp only [putAll, Act.put, List.setIfInBounds_toArray, List.set_cons_zero, List.set_cons_succ]; done) | (simp only [putAll, Act.put, List.setIfInBounds_toArray, List.set_cons_zero, List.set_cons_succ]; rfl)) (hJ4_5_10_11 (v128, .slice Ao16 y131.length co16) _ ⟨hHeld, (rq HO129.out), (rq HO133.out), (bg BK124.out), (bg BK125.out), (bg BK126.out), (bs HB.out)⟩)
     ·
      skip
      refine box_step ?hg (N := 6) ?hd (cs := #[.int .i64 0, .int .i64 0]) (t := 25) ?hr ?_; (case hd => rfl); (case hg => rfl); (case hr => first | (go_simp; done) | (go_simp; rfl))
      intro gb135 hg w16 hbox hb
      have n0_ := Aside0.mk (Kd.R_below (rq HO129.out) hb)
      have n1_ := Aside0.mk (Kd.R_below (rq HO133.out) hb)
      have n2_ := Aside0.mk (blk_below (bg BK124.out) hb)
      have n3_ := Aside0.mk (blk_below (bg BK125.out) hb)
      have n4_ := Aside0.mk (blk_below (bg BK126.out) hb)
      have n5_ := Aside0.mk (below_step (bs HB.out) hb)
      have n6_ := Aside0.mk (hbox)
      have n7_ := Aside0.mk ((by rw [hg]; exact (below_size (bs HB.out)) : w.heap.size ≤ gb135))
      have n8_ := Aside0.mk ((by rw [hg]; exact (below_size (bs HB.out)) : w.heap.size ≤ gb135))
      have n9_ := Aside0.mk ((by rw [hg]; exact Nat.ne_of_lt (blk_lt (bg BK124.out)) : gb124 ≠ gb135))
      have n10_ := Aside0.mk ((by rw [hg]; exact Nat.ne_of_gt (blk_lt (bg BK124.out)) : gb135 ≠ gb124))
      have n11_ := Aside0.mk ((by rw [hg]; exact Nat.ne_of_lt (blk_lt (bg BK125.out)) : gb125 ≠ gb135))
      have n12_ := Aside0.mk ((by rw [hg]; exact Nat.ne_of_gt (blk_lt (bg BK125.out)) : gb135 ≠ gb125))
      have n13_ := Aside0.mk ((by rw [hg]; exact Nat.ne_of_lt (blk_lt (bg BK126.out)) : gb126 ≠ gb135))
      have n14_ := Aside0.mk ((by rw [hg]; exact Nat.ne_of_gt (blk_lt (bg BK126.out)) : gb135 ≠ gb126))
      clear HO129
      clear HO133
      clear BK124
      clear BK125
      clear BK126
      clear HB
      have HO129 := n0_
      have HO133 := n1_
      have BK124 := n2_
      have BK125 := n3_
      have BK126 := n4_
      have HB := n5_
      have BK135 := n6_
      have GW135 := n7_
      have GE135 := n8_
      have NB124_135 := n9_
      have NB135_124 := n10_
      have NB125_135 := n11_
      have NB135_125 := n12_
      have NB126_135 := n13_
      have NB135_126 := n14_
      clear n0_ n1_ n2_ n3_ n4_ n5_ n6_ n7_ n8_ n9_ n10_ n11_ n12_ n13_ n14_
      clear hb hbox hg
      refine hK.out _ _ ⟨(blk_cell BK124.out 0).trans rfl, (blk_cell BK124.out 1).trans rfl, (blk_cell BK125.out 0).trans rfl, (blk_cell BK125.out 1).trans rfl⟩ (fun hHeld => ?_)
      clear hK K
      refine norm_ (a' := ?_) ?_ ?_
      rotate_left
      ·
       show Act.put _ (some 6) _ = _
       simp only [Act.put, List.setIfInBounds_toArray, List.set_cons_zero, List.set_cons_succ, i64_w, i32_w]
       rfl
      exact norm_ (by first | (simp only [putAll, Act.put, List.setIfInBounds_toArray, List.set_cons_zero, List.set_cons_succ]; done) | (simp only [putAll, Act.put, List.setIfInBounds_toArray, List.set_cons_zero, List.set_cons_succ]; rfl)) (hJ4_5_10_13 (v128, (.slice Ao16 y131.length co16), gb135) _ ⟨hHeld, (rq HO129.out), (rq HO133.out), (bg BK124.out), (bg BK125.out), (bg BK126.out), (bg BK135.out), GW135.out, GE135.out, NB124_135.out, NB135_124.out, NB125_135.out, NB135_125.out, NB126_135.out, NB135_126.out, (bs HB.out)⟩)
   ·
    skip
    rintro ⟨v128, v132, gb135⟩ w16 ⟨hS_, h0_, h1_, h2_, h3_, h4_, h5_, h6_, h7_, h8_, h9_, h10_, h11_, h12_, h13_, h14_⟩
    have n0_ : Aside0 (Kd.R (Kd.int .i64) 3 w16 w.heap.size (fun k_ => some k_ ≠ (v132 : Value).ownBlock) v128 y127) := ⟨h0_⟩
    have n1_ : Aside0 (Kd.R (Kd.int .i64) 3 w16 w.heap.size (fun k_ => some k_ ≠ (v128 : Value).ownBlock) v132 y131) := ⟨h1_⟩
    have n2_ : Aside0 (w16.heap[gb124]? = some (.cells #[.int .i64 a0_0, .int .i64 a0_1] 25 (0, 0))) := ⟨h2_⟩
    have n3_ : Aside0 (w16.heap[gb125]? = some (.cells #[.int .i64 a1_0, .int .i64 a1_1] 25 (0, 0))) := ⟨h3_⟩
    have n4_ : Aside0 (w16.heap[gb126]? = some (.cells #[.int .i64 0, .int .i64 0] 25 (0, 0))) := ⟨h4_⟩
    have n5_ : Aside0 (w16.heap[gb135]? = some (.cells #[.int .i64 0, .int .i64 0] 25 (0, 0))) := ⟨h5_⟩
    have n6_ : Aside0 (w.heap.size ≤ gb135) := ⟨h6_⟩
    have n7_ : Aside0 (w.heap.size ≤ gb135) := ⟨h7_⟩
    have n8_ : Aside0 (gb124 ≠ gb135) := ⟨h8_⟩
    have n9_ : Aside0 (gb135 ≠ gb124) := ⟨h9_⟩
    have n10_ : Aside0 (gb125 ≠ gb135) := ⟨h10_⟩
    have n11_ : Aside0 (gb135 ≠ gb125) := ⟨h11_⟩
    have n12_ : Aside0 (gb126 ≠ gb135) := ⟨h12_⟩
    have n13_ : Aside0 (gb135 ≠ gb126) := ⟨h13_⟩
    have n14_ : Aside0 (Below w.heap.size w w16) := ⟨h14_⟩
    clear BK124
    clear BK125
    clear BK126
    clear HB
    clear h0_ h1_ h2_ h3_ h4_ h5_ h6_ h7_ h8_ h9_ h10_ h11_ h12_ h13_ h14_
    have HO129 := n0_
    have HO133 := n1_
    have BK124 := n2_
    have BK125 := n3_
    have BK126 := n4_
    have BK135 := n5_
    have GW135 := n6_
    have GE135 := n7_
    have NB124_135 := n8_
    have NB135_124 := n9_
    have NB125_135 := n10_
    have NB135_125 := n11_
    have NB126_135 := n12_
    have NB135_126 := n13_
    have HB := n14_
    clear n0_ n1_ n2_ n3_ n4_ n5_ n6_ n7_ n8_ n9_ n10_ n11_ n12_ n13_ n14_
    have hHeld : w16.cell? ⟨gb124, 0, none⟩ = some (.int .i64 a0_0) ∧ w16.cell? ⟨gb124, 1, none⟩ = some (.int .i64 a0_1) ∧ w16.cell? ⟨gb125, 0, none⟩ = some (.int .i64 a1_0) ∧ w16.cell? ⟨gb125, 1, none⟩ = some (.int .i64 a1_1) := hS_
    obtain ⟨Ao17, co17, eo17⟩ := Kd.R_slice HO133.out
    (first | subst eo17 | (injection eo17 with f1_ f2_ f3_; have f4_ := f1_.symm; have f5_ := f3_.symm; clear f1_ f2_ f3_; subst f4_; subst f5_))
    refine norm_ (a' := ?_) ?_ ?_
    rotate_left
    ·
     simp only [putAll, Act.put, List.setIfInBounds_toArray, List.set_cons_zero, List.set_cons_succ]
     rfl
    refine one_ (i := 11) (N := some 18) #[true, true, true, true, true, true, true, true, true, true, true, true, false, true, false] rfl rfl (one_of HT_.out (by kernel_rfl)) (by decide) (fun K hK => ?_)
    refine goes_ Try.func30 (by kernel_rfl) rfl #[.int .i64 a0_1, .slice Ao17 y131.length co17] (by rfl) rfl rfl (by (try simp only [List.map_toArray, List.map_cons, List.map_nil]); first | done | rfl | (simp only [List.length_drop, List.length_take]; rfl)) ?_
    with_reducible refine (span_earliest.calls k a0_1 _ _ y131 t134 _ ?side1 ?side2 A4.out).mono ?_
    (case side1 => repeat (first | exact (Kd.R_reads' HO133.out).2.2 | (with_reducible refine Kd.C_alloc ?_ _) | (with_reducible refine Kd.C_drewN ?_ _) | (with_reducible refine Kd.C_drew ?_)))
    (case side2 => exact (Kd.R_reads' HO133.out).2.1)
    rintro e w18 ⟨rfl, hb⟩
    refine ⟨_, rfl, ?_⟩
    have n0_ := Aside0.mk (Kd.R_below (rq HO129.out) hb)
    have n1_ := Aside0.mk (Kd.R_below (rq HO133.out) hb)
    have n2_ := Aside0.mk (blk_below (bg BK124.out) hb)
    have n3_ := Aside0.mk (blk_below (bg BK125.out) hb)
    have n4_ := Aside0.mk (blk_below (bg BK126.out) hb)
    have n5_ := Aside0.mk (blk_below (bg BK135.out) hb)
    have n6_ := Aside0.mk (below_step (bs HB.out) hb)
    clear HO129
    clear HO133
    clear BK124
    clear BK125
    clear BK126
    clear BK135
    clear HB
    have HO129 := n0_
    have HO133 := n1_
    have BK124 := n2_
    have BK125 := n3_
    have BK126 := n4_
    have BK135 := n5_
    have HB := n6_
    clear n0_ n1_ n2_ n3_ n4_ n5_ n6_
    (try clear hb)
    (try clear hb2)
    (try clear hk)
    (try clear hi)
    refine hK.out _ _ ⟨(blk_cell BK124.out 0).trans rfl, (blk_cell BK124.out 1).trans rfl, (blk_cell BK125.out 0).trans rfl, (blk_cell BK125.out 1).trans rfl⟩ (fun hHeld => ?_)
    clear hK K
    refine norm_ (a' := ?_) ?_ ?_
    rotate_left
    ·
     show Act.put _ (some 18) _ = _
     simp only [Act.put, List.setIfInBounds_toArray, List.set_cons_zero, List.set_cons_succ, i64_w, i32_w]
     rfl
    refine pu 12 19 (bsq 14 1) ?_
    exact norm_ (by first | (simp only [putAll, Act.put, List.setIfInBounds_toArray, List.set_cons_zero, List.set_cons_succ]; done) | (simp only [putAll, Act.put, List.setIfInBounds_toArray, List.set_cons_zero, List.set_cons_succ]; rfl)) (hJ4_5_10_11_13 (v128, .slice Ao17 y131.length co17, gb135) _ ⟨hHeld, (rq HO129.out), (rq HO133.out), (bg BK124.out), (bg BK125.out), (bg BK126.out), (bg BK135.out), GW135.out, GE135.out, NB124_135.out, NB135_124.out, NB125_135.out, NB135_125.out, NB126_135.out, NB135_126.out, (bs HB.out)⟩)
  ·
   skip
   rintro ⟨v128, v132⟩ w17 ⟨hS_, h0_, h1_, h2_, h3_, h4_, h5_⟩
   have n0_ : Aside0 (Kd.R (Kd.int .i64) 3 w17 w.heap.size (fun k_ => some k_ ≠ (v132 : Value).ownBlock) v128 y127) := ⟨h0_⟩
   have n1_ : Aside0 (Kd.R (Kd.int .i64) 3 w17 w.heap.size (fun k_ => some k_ ≠ (v128 : Value).ownBlock) v132 y131) := ⟨h1_⟩
   have n2_ : Aside0 (w17.heap[gb124]? = some (.cells #[.int .i64 a0_0, .int .i64 a0_1] 25 (0, 0))) := ⟨h2_⟩
   have n3_ : Aside0 (w17.heap[gb125]? = some (.cells #[.int .i64 a1_0, .int .i64 a1_1] 25 (0, 0))) := ⟨h3_⟩
   have n4_ : Aside0 (w17.heap[gb126]? = some (.cells #[.int .i64 0, .int .i64 0] 25 (0, 0))) := ⟨h4_⟩
   have n5_ : Aside0 (Below w.heap.size w w17) := ⟨h5_⟩
   clear BK124
   clear BK125
   clear BK126
   clear HB
   clear h0_ h1_ h2_ h3_ h4_ h5_
   have HO129 := n0_
   have HO133 := n1_
   have BK124 := n2_
   have BK125 := n3_
   have BK126 := n4_
   have HB := n5_
   clear n0_ n1_ n2_ n3_ n4_ n5_
   have hHeld : w17.cell? ⟨gb124, 0, none⟩ = some (.int .i64 a0_0) ∧ w17.cell? ⟨gb124, 1, none⟩ = some (.int .i64 a0_1) ∧ w17.cell? ⟨gb125, 0, none⟩ = some (.int .i64 a1_0) ∧ w17.cell? ⟨gb125, 1, none⟩ = some (.int .i64 a1_1) := hS_
   refine norm_ (a' := ?_) ?_ ?_
   rotate_left
   ·
    simp only [putAll, Act.put, List.setIfInBounds_toArray, List.set_cons_zero, List.set_cons_succ]
    rfl
   refine one_ (i := 13) (N := some 6) (bsq 14 1) rfl rfl (one_of HT_.out (by kernel_rfl)) (by decide) (fun K hK => ?_)
   refine box_step ?hg (N := 6) ?hd (cs := #[.int .i64 0, .int .i64 0]) (t := 25) ?hr ?_; (case hd => rfl); (case hg => rfl); (case hr => first | (go_simp; done) | (go_simp; rfl))
   intro gb135 hg w18 hbox hb
   have n0_ := Aside0.mk (Kd.R_below (rq HO129.out) hb)
   have n1_ := Aside0.mk (Kd.R_below (rq HO133.out) hb)
   have n2_ := Aside0.mk (blk_below (bg BK124.out) hb)
   have n3_ := Aside0.mk (blk_below (bg BK125.out) hb)
   have n4_ := Aside0.mk (blk_below (bg BK126.out) hb)
   have n5_ := Aside0.mk (below_step (bs HB.out) hb)
   have n6_ := Aside0.mk (hbox)
   have n7_ := Aside0.mk ((by rw [hg]; exact (below_size (bs HB.out)) : w.heap.size ≤ gb135))
   have n8_ := Aside0.mk ((by rw [hg]; exact (below_size (bs HB.out)) : w.heap.size ≤ gb135))
   have n9_ := Aside0.mk ((by rw [hg]; exact Nat.ne_of_lt (blk_lt (bg BK124.out)) : gb124 ≠ gb135))
   have n10_ := Aside0.mk ((by rw [hg]; exact Nat.ne_of_gt (blk_lt (bg BK124.out)) : gb135 ≠ gb124))
   have n11_ := Aside0.mk ((by rw [hg]; exact Nat.ne_of_lt (blk_lt (bg BK125.out)) : gb125 ≠ gb135))
   have n12_ := Aside0.mk ((by rw [hg]; exact Nat.ne_of_gt (blk_lt (bg BK125.out)) : gb135 ≠ gb125))
   have n13_ := Aside0.mk ((by rw [hg]; exact Nat.ne_of_lt (blk_lt (bg BK126.out)) : gb126 ≠ gb135))
   have n14_ := Aside0.mk ((by rw [hg]; exact Nat.ne_of_gt (blk_lt (bg BK126.out)) : gb135 ≠ gb126))
   clear HO129
   clear HO133
   clear BK124
   clear BK125
   clear BK126
   clear HB
   have HO129 := n0_
   have HO133 := n1_
   have BK124 := n2_
   have BK125 := n3_
   have BK126 := n4_
   have HB := n5_
   have BK135 := n6_
   have GW135 := n7_
   have GE135 := n8_
   have NB124_135 := n9_
   have NB135_124 := n10_
   have NB125_135 := n11_
   have NB135_125 := n12_
   have NB126_135 := n13_
   have NB135_126 := n14_
   clear n0_ n1_ n2_ n3_ n4_ n5_ n6_ n7_ n8_ n9_ n10_ n11_ n12_ n13_ n14_
   clear hb hbox hg
   refine hK.out _ _ ⟨(blk_cell BK124.out 0).trans rfl, (blk_cell BK124.out 1).trans rfl, (blk_cell BK125.out 0).trans rfl, (blk_cell BK125.out 1).trans rfl⟩ (fun hHeld => ?_)
   clear hK K
   refine norm_ (a' := ?_) ?_ ?_
   rotate_left
   ·
    show Act.put _ (some 6) _ = _
    simp only [Act.put, List.setIfInBounds_toArray, List.set_cons_zero, List.set_cons_succ, i64_w, i32_w]
    rfl
   exact norm_ (by first | (simp only [putAll, Act.put, List.setIfInBounds_toArray, List.set_cons_zero, List.set_cons_succ]; done) | (simp only [putAll, Act.put, List.setIfInBounds_toArray, List.set_cons_zero, List.set_cons_succ]; rfl)) (hJ4_5_10_11_13 (v128, v132, gb135) _ ⟨hHeld, (rq HO129.out), (rq HO133.out), (bg BK124.out), (bg BK125.out), (bg BK126.out), (bg BK135.out), GW135.out, GE135.out, NB124_135.out, NB135_124.out, NB125_135.out, NB135_125.out, NB126_135.out, NB135_126.out, (bs HB.out)⟩)
 rintro ⟨v128, v132, gb135⟩ w18 ⟨hS_, h0_, h1_, h2_, h3_, h4_, h5_, h6_, h7_, h8_, h9_, h10_, h11_, h12_, h13_, h14_⟩
 have n0_ : Aside0 (Kd.R (Kd.int .i64) 3 w18 w.heap.size (fun k_ => some k_ ≠ (v132 : Value).ownBlock) v128 y127) := ⟨h0_⟩
 have n1_ : Aside0 (Kd.R (Kd.int .i64) 3 w18 w.heap.size (fun k_ => some k_ ≠ (v128 : Value).ownBlock) v132 y131) := ⟨h1_⟩
 have n2_ : Aside0 (w18.heap[gb124]? = some (.cells #[.int .i64 a0_0, .int .i64 a0_1] 25 (0, 0))) := ⟨h2_⟩
 have n3_ : Aside0 (w18.heap[gb125]? = some (.cells #[.int .i64 a1_0, .int .i64 a1_1] 25 (0, 0))) := ⟨h3_⟩
 have n4_ : Aside0 (w18.heap[gb126]? = some (.cells #[.int .i64 0, .int .i64 0] 25 (0, 0))) := ⟨h4_⟩
 have n5_ : Aside0 (w18.heap[gb135]? = some (.cells #[.int .i64 0, .int .i64 0] 25 (0, 0))) := ⟨h5_⟩
 have n6_ : Aside0 (w.heap.size ≤ gb135) := ⟨h6_⟩
 have n7_ : Aside0 (w.heap.size ≤ gb135) := ⟨h7_⟩
 have n8_ : Aside0 (gb124 ≠ gb135) := ⟨h8_⟩
 have n9_ : Aside0 (gb135 ≠ gb124) := ⟨h9_⟩
 have n10_ : Aside0 (gb125 ≠ gb135) := ⟨h10_⟩
 have n11_ : Aside0 (gb135 ≠ gb125) := ⟨h11_⟩
 have n12_ : Aside0 (gb126 ≠ gb135) := ⟨h12_⟩
 have n13_ : Aside0 (gb135 ≠ gb126) := ⟨h13_⟩
 have n14_ : Aside0 (Below w.heap.size w w18) := ⟨h14_⟩
 clear BK124
 clear BK125
 clear BK126
 clear HB
 clear h0_ h1_ h2_ h3_ h4_ h5_ h6_ h7_ h8_ h9_ h10_ h11_ h12_ h13_ h14_
 have HO129 := n0_
 have HO133 := n1_
 have BK124 := n2_
 have BK125 := n3_
 have BK126 := n4_
 have BK135 := n5_
 have GW135 := n6_
 have GE135 := n7_
 have NB124_135 := n8_
 have NB135_124 := n9_
 have NB125_135 := n10_
 have NB135_125 := n11_
 have NB126_135 := n12_
 have NB135_126 := n13_
 have HB := n14_
 clear n0_ n1_ n2_ n3_ n4_ n5_ n6_ n7_ n8_ n9_ n10_ n11_ n12_ n13_ n14_
 have hHeld : w18.cell? ⟨gb124, 0, none⟩ = some (.int .i64 a0_0) ∧ w18.cell? ⟨gb124, 1, none⟩ = some (.int .i64 a0_1) ∧ w18.cell? ⟨gb125, 0, none⟩ = some (.int .i64 a1_0) ∧ w18.cell? ⟨gb125, 1, none⟩ = some (.int .i64 a1_1) := hS_
 refine norm_ (a' := ?_) ?_ ?_
 rotate_left
 ·
  simp only [putAll, Act.put, List.setIfInBounds_toArray, List.set_cons_zero, List.set_cons_succ]
  rfl
 refine one_ (i := 14) (N := none) (bsq 15 0) rfl rfl (one_of HT_.out (by kernel_rfl)) (by decide) (fun K hK => ?_)
 have hs19 : w18.cell? ⟨gb135, 0, none⟩ = some (.int .i64 0) := (blk_cell BK135.out 0).trans rfl
 have hfs19 := blk_frozen BK135.out 0
 have hns19_0 := NB124_135.out
 have hns19_1 := NB125_135.out
 have hns19_2 := NB126_135.out
 have hms19_0 := NB135_124.out
 have hms19_1 := NB135_125.out
 have hms19_2 := NB135_126.out
 have hs20 : w18.cell? ⟨gb135, 1, none⟩ = some (.int .i64 0) := (blk_cell BK135.out 1).trans rfl
 have hfs20 := blk_frozen BK135.out 1
 have hns20_0 := NB124_135.out
 have hns20_1 := NB125_135.out
 have hns20_2 := NB126_135.out
 have hms20_0 := NB135_124.out
 have hms20_1 := NB135_125.out
 have hms20_2 := NB135_126.out
 refine skip_ (w1 := ?_) (by rfl) rfl ?_ ?_
 rotate_left
 ·
  go_simp
  rfl
 refine hK.out _ _ ⟨((cell_far (p := ⟨gb135, _, none⟩) NB124_135.out _).trans (((cell_far (p := ⟨gb135, _, none⟩) NB124_135.out _).trans (hHeld.1)))), ((cell_far (p := ⟨gb135, _, none⟩) NB124_135.out _).trans (((cell_far (p := ⟨gb135, _, none⟩) NB124_135.out _).trans (hHeld.2.1)))), ((cell_far (p := ⟨gb135, _, none⟩) NB125_135.out _).trans (((cell_far (p := ⟨gb135, _, none⟩) NB125_135.out _).trans (hHeld.2.2.1)))), ((cell_far (p := ⟨gb135, _, none⟩) NB125_135.out _).trans (((cell_far (p := ⟨gb135, _, none⟩) NB125_135.out _).trans (hHeld.2.2.2))))⟩ (fun hHeld => ?_)
 clear hK K
 refine done_ (done_of HT_.out (by kernel_rfl)) ?_
 have n0_ : Aside0 (((w18.setCell ⟨gb135, 0, none⟩ (.int .i64 t130)).setCell ⟨gb135, 1, none⟩ (.int .i64 t134)).heap[gb124]? = some (.cells #[.int .i64 a0_0, .int .i64 a0_1] 25 (0, 0))) := ⟨by (iterate 2 (with_reducible repeat (first | refine blk_drewN ?_ _ | refine blk_drew ?_ | refine blk_alloc ?_ _)); refine blk_far ?_ NB124_135.out _); exact bg BK124.out⟩
 have n1_ : Aside0 (((w18.setCell ⟨gb135, 0, none⟩ (.int .i64 t130)).setCell ⟨gb135, 1, none⟩ (.int .i64 t134)).heap[gb125]? = some (.cells #[.int .i64 a1_0, .int .i64 a1_1] 25 (0, 0))) := ⟨by (iterate 2 (with_reducible repeat (first | refine blk_drewN ?_ _ | refine blk_drew ?_ | refine blk_alloc ?_ _)); refine blk_far ?_ NB125_135.out _); exact bg BK125.out⟩
 have n2_ : Aside0 (((w18.setCell ⟨gb135, 0, none⟩ (.int .i64 t130)).setCell ⟨gb135, 1, none⟩ (.int .i64 t134)).heap[gb126]? = some (.cells #[.int .i64 0, .int .i64 0] 25 (0, 0))) := ⟨by (iterate 2 (with_reducible repeat (first | refine blk_drewN ?_ _ | refine blk_drew ?_ | refine blk_alloc ?_ _)); refine blk_far ?_ NB126_135.out _); exact bg BK126.out⟩
 have n3_ : Aside0 (((w18.setCell ⟨gb135, 0, none⟩ (.int .i64 t130)).setCell ⟨gb135, 1, none⟩ (.int .i64 t134)).heap[gb135]? = some (.cells #[.int .i64 t130, .int .i64 t134] 25 (0, 0))) := ⟨pt2 (bg BK135.out)⟩
 have n4_ : Aside0 (Below w.heap.size w ((w18.setCell ⟨gb135, 0, none⟩ (.int .i64 t130)).setCell ⟨gb135, 1, none⟩ (.int .i64 t134))) := ⟨bs HB.out⟩
 clear hs19 hfs19 hs20 hfs20 hHeld BK124 BK125 BK126 BK135 HB HO129 HO133
 generalize ((w18.setCell ⟨gb135, 0, none⟩ (.int .i64 t130)).setCell ⟨gb135, 1, none⟩ (.int .i64 t134)) = w19 at n0_ n1_ n2_ n3_ n4_ ⊢
 have BK124 := n0_
 have BK125 := n1_
 have BK126 := n2_
 have BK135 := n3_
 have HB := n4_
 clear n0_ n1_ n2_ n3_ n4_ A3 A4 Ny127 Ny131
 have hV1 := Aside0.mk (valid_f a0_0 a0_1)
 have hV2 := Aside0.mk (valid_f a1_0 a1_1)
 have hV3 := Aside0.mk (valid_f t130 t134)
 generalize vld a0_0 a0_1 = v1 at hV1 HH
 generalize vld a1_0 a1_1 = v2 at hV2 HH
 generalize vld t130 t134 = v3 at hV3 HH
 obtain ⟨hc124_0, hc124_1⟩ := bc2 BK124.out
 clear hHeld hns19_0 hns19_1 hns19_2 hms19_0 hms19_1 hms19_2 hns20_0 hns20_1 hns20_2 hms20_0 hms20_1 hms20_2 hS_
 rcases v1 with _ | _
 ·
  have hr_ := HH.out
  simp only [Bool.false_and, Bool.and_false, Bool.true_and, if_neg (show ¬ (false = true) by decide), if_pos, Option.some.injEq, Prod.mk.injEq] at hr_
  obtain ⟨rfl, rfl, rfl⟩ := hr_
  clear HH
  go_wp2_with (first | ((with_reducible refine gate_callee (f := 14) rfl ?_); refine goesL_ (some 21) rfl rfl Try.func14 (by kernel_rfl) rfl #[.agg #[.int .i64 a0_0, .int .i64 a0_1]] rfl (by (try simp only [List.map_toArray, List.map_cons, List.map_nil]); first | done | rfl | (simp only [List.length_drop, List.length_take]; rfl)) ?_; (with_reducible refine (span_Valid.calls a0_0 a0_1 _ _ hV1.out).mono ?_); rintro e w20 ⟨rfl, hb⟩; refine ⟨_, rfl, ?_⟩; have n0_ := Aside0.mk (blk_below (bg BK124.out) hb); have n1_ := Aside0.mk (blk_below (bg BK125.out) hb); have n2_ := Aside0.mk (blk_below (bg BK126.out) hb); have n3_ := Aside0.mk (blk_below (bg BK135.out) hb); have n4_ := Aside0.mk (below_step (bs HB.out) hb); clear BK124 BK125 BK126 BK135 HB hb; have BK124 := n0_; have BK125 := n1_; have BK126 := n2_; have BK135 := n3_; have HB := n4_; clear n0_ n1_ n2_ n3_ n4_; obtain ⟨hc124_20_0, hc124_20_1⟩ := bc2 BK124.out; obtain ⟨hc125_20_0, hc125_20_1⟩ := bc2 BK125.out; obtain ⟨hc126_20_0, hc126_20_1⟩ := bc2 BK126.out; obtain ⟨hc135_20_0, hc135_20_1⟩ := bc2 BK135.out; obtain ⟨hf20_0, hf20_1⟩ := bf2 BK126.out) | (go_at_call 14; (with_reducible refine (span_Valid.calls a1_0 a1_1 _ _ hV2.out).mono ?_); rintro e w21 ⟨rfl, hb⟩; have n0_ := Aside0.mk (blk_below (bg BK124.out) hb); have n1_ := Aside0.mk (blk_below (bg BK125.out) hb); have n2_ := Aside0.mk (blk_below (bg BK126.out) hb); have n3_ := Aside0.mk (blk_below (bg BK135.out) hb); have n4_ := Aside0.mk (below_step (bs HB.out) hb); clear BK124 BK125 BK126 BK135 HB hb; have BK124 := n0_; have BK125 := n1_; have BK126 := n2_; have BK135 := n3_; have HB := n4_; clear n0_ n1_ n2_ n3_ n4_; obtain ⟨hc124_21_0, hc124_21_1⟩ := bc2 BK124.out; obtain ⟨hc125_21_0, hc125_21_1⟩ := bc2 BK125.out; obtain ⟨hc126_21_0, hc126_21_1⟩ := bc2 BK126.out; obtain ⟨hc135_21_0, hc135_21_1⟩ := bc2 BK135.out; obtain ⟨hf21_0, hf21_1⟩ := bf2 BK126.out) | (go_at_call 14; (with_reducible refine (span_Valid.calls t130 t134 _ _ hV3.out).mono ?_); rintro e w22 ⟨rfl, hb⟩; have n0_ := Aside0.mk (blk_below (bg BK124.out) hb); have n1_ := Aside0.mk (blk_below (bg BK125.out) hb); have n2_ := Aside0.mk (blk_below (bg BK126.out) hb); have n3_ := Aside0.mk (blk_below (bg BK135.out) hb); have n4_ := Aside0.mk (below_step (bs HB.out) hb); clear BK124 BK125 BK126 BK135 HB hb; have BK124 := n0_; have BK125 := n1_; have BK126 := n2_; have BK135 := n3_; have HB := n4_; clear n0_ n1_ n2_ n3_ n4_; obtain ⟨hc124_22_0, hc124_22_1⟩ := bc2 BK124.out; obtain ⟨hc125_22_0, hc125_22_1⟩ := bc2 BK125.out; obtain ⟨hc126_22_0, hc126_22_1⟩ := bc2 BK126.out; obtain ⟨hc135_22_0, hc135_22_1⟩ := bc2 BK135.out; obtain ⟨hf22_0, hf22_1⟩ := bf2 BK126.out))
  refine bodyPost_ret (results_ct rfl _ _ gb126 25 #[.int .i64 0, .int .i64 0] (0, 0) _ rfl (pt2 (bg BK126.out)) Try.underlying25 rfl (by kernel_rfl)) rfl ?_
  exact ⟨rfl, bs HB.out⟩
 rcases v2 with _ | _
 ·
  have hr_ := HH.out
  simp only [Bool.false_and, Bool.and_false, Bool.true_and, if_neg (show ¬ (false = true) by decide), if_pos, Option.some.injEq, Prod.mk.injEq] at hr_
  obtain ⟨rfl, rfl, rfl⟩ := hr_
  clear HH
  go_wp2_with (first | ((with_reducible refine gate_callee (f := 14) rfl ?_); refine goesL_ (some 21) rfl rfl Try.func14 (by kernel_rfl) rfl #[.agg #[.int .i64 a0_0, .int .i64 a0_1]] rfl (by (try simp only [List.map_toArray, List.map_cons, List.map_nil]); first | done | rfl | (simp only [List.length_drop, List.length_take]; rfl)) ?_; (with_reducible refine (span_Valid.calls a0_0 a0_1 _ _ hV1.out).mono ?_); rintro e w20 ⟨rfl, hb⟩; refine ⟨_, rfl, ?_⟩; have n0_ := Aside0.mk (blk_below (bg BK124.out) hb); have n1_ := Aside0.mk (blk_below (bg BK125.out) hb); have n2_ := Aside0.mk (blk_below (bg BK126.out) hb); have n3_ := Aside0.mk (blk_below (bg BK135.out) hb); have n4_ := Aside0.mk (below_step (bs HB.out) hb); clear BK124 BK125 BK126 BK135 HB hb; have BK124 := n0_; have BK125 := n1_; have BK126 := n2_; have BK135 := n3_; have HB := n4_; clear n0_ n1_ n2_ n3_ n4_; obtain ⟨hc124_20_0, hc124_20_1⟩ := bc2 BK124.out; obtain ⟨hc125_20_0, hc125_20_1⟩ := bc2 BK125.out; obtain ⟨hc126_20_0, hc126_20_1⟩ := bc2 BK126.out; obtain ⟨hc135_20_0, hc135_20_1⟩ := bc2 BK135.out; obtain ⟨hf20_0, hf20_1⟩ := bf2 BK126.out) | (go_at_call 14; (with_reducible refine (span_Valid.calls a1_0 a1_1 _ _ hV2.out).mono ?_); rintro e w21 ⟨rfl, hb⟩; have n0_ := Aside0.mk (blk_below (bg BK124.out) hb); have n1_ := Aside0.mk (blk_below (bg BK125.out) hb); have n2_ := Aside0.mk (blk_below (bg BK126.out) hb); have n3_ := Aside0.mk (blk_below (bg BK135.out) hb); have n4_ := Aside0.mk (below_step (bs HB.out) hb); clear BK124 BK125 BK126 BK135 HB hb; have BK124 := n0_; have BK125 := n1_; have BK126 := n2_; have BK135 := n3_; have HB := n4_; clear n0_ n1_ n2_ n3_ n4_; obtain ⟨hc124_21_0, hc124_21_1⟩ := bc2 BK124.out; obtain ⟨hc125_21_0, hc125_21_1⟩ := bc2 BK125.out; obtain ⟨hc126_21_0, hc126_21_1⟩ := bc2 BK126.out; obtain ⟨hc135_21_0, hc135_21_1⟩ := bc2 BK135.out; obtain ⟨hf21_0, hf21_1⟩ := bf2 BK126.out) | (go_at_call 14; (with_reducible refine (span_Valid.calls t130 t134 _ _ hV3.out).mono ?_); rintro e w22 ⟨rfl, hb⟩; have n0_ := Aside0.mk (blk_below (bg BK124.out) hb); have n1_ := Aside0.mk (blk_below (bg BK125.out) hb); have n2_ := Aside0.mk (blk_below (bg BK126.out) hb); have n3_ := Aside0.mk (blk_below (bg BK135.out) hb); have n4_ := Aside0.mk (below_step (bs HB.out) hb); clear BK124 BK125 BK126 BK135 HB hb; have BK124 := n0_; have BK125 := n1_; have BK126 := n2_; have BK135 := n3_; have HB := n4_; clear n0_ n1_ n2_ n3_ n4_; obtain ⟨hc124_22_0, hc124_22_1⟩ := bc2 BK124.out; obtain ⟨hc125_22_0, hc125_22_1⟩ := bc2 BK125.out; obtain ⟨hc126_22_0, hc126_22_1⟩ := bc2 BK126.out; obtain ⟨hc135_22_0, hc135_22_1⟩ := bc2 BK135.out; obtain ⟨hf22_0, hf22_1⟩ := bf2 BK126.out))
  refine bodyPost_ret (results_ct rfl _ _ gb126 25 #[.int .i64 0, .int .i64 0] (0, 0) _ rfl (pt2 (bg BK126.out)) Try.underlying25 rfl (by kernel_rfl)) rfl ?_
  exact ⟨rfl, bs HB.out⟩
 rcases v3 with _ | _
 ·
  have hr_ := HH.out
  simp only [Bool.false_and, Bool.and_false, Bool.true_and, if_neg (show ¬ (false = true) by decide), if_pos, Option.some.injEq, Prod.mk.injEq] at hr_
  obtain ⟨rfl, rfl, rfl⟩ := hr_
  clear HH
  go_wp2_with (first | ((with_reducible refine gate_callee (f := 14) rfl ?_); refine goesL_ (some 21) rfl rfl Try.func14 (by kernel_rfl) rfl #[.agg #[.int .i64 a0_0, .int .i64 a0_1]] rfl (by (try simp only [List.map_toArray, List.map_cons, List.map_nil]); first | done | rfl | (simp only [List.length_drop, List.length_take]; rfl)) ?_; (with_reducible refine (span_Valid.calls a0_0 a0_1 _ _ hV1.out).mono ?_); rintro e w20 ⟨rfl, hb⟩; refine ⟨_, rfl, ?_⟩; have n0_ := Aside0.mk (blk_below (bg BK124.out) hb); have n1_ := Aside0.mk (blk_below (bg BK125.out) hb); have n2_ := Aside0.mk (blk_below (bg BK126.out) hb); have n3_ := Aside0.mk (blk_below (bg BK135.out) hb); have n4_ := Aside0.mk (below_step (bs HB.out) hb); clear BK124 BK125 BK126 BK135 HB hb; have BK124 := n0_; have BK125 := n1_; have BK126 := n2_; have BK135 := n3_; have HB := n4_; clear n0_ n1_ n2_ n3_ n4_; obtain ⟨hc124_20_0, hc124_20_1⟩ := bc2 BK124.out; obtain ⟨hc125_20_0, hc125_20_1⟩ := bc2 BK125.out; obtain ⟨hc126_20_0, hc126_20_1⟩ := bc2 BK126.out; obtain ⟨hc135_20_0, hc135_20_1⟩ := bc2 BK135.out; obtain ⟨hf20_0, hf20_1⟩ := bf2 BK126.out) | (go_at_call 14; (with_reducible refine (span_Valid.calls a1_0 a1_1 _ _ hV2.out).mono ?_); rintro e w21 ⟨rfl, hb⟩; have n0_ := Aside0.mk (blk_below (bg BK124.out) hb); have n1_ := Aside0.mk (blk_below (bg BK125.out) hb); have n2_ := Aside0.mk (blk_below (bg BK126.out) hb); have n3_ := Aside0.mk (blk_below (bg BK135.out) hb); have n4_ := Aside0.mk (below_step (bs HB.out) hb); clear BK124 BK125 BK126 BK135 HB hb; have BK124 := n0_; have BK125 := n1_; have BK126 := n2_; have BK135 := n3_; have HB := n4_; clear n0_ n1_ n2_ n3_ n4_; obtain ⟨hc124_21_0, hc124_21_1⟩ := bc2 BK124.out; obtain ⟨hc125_21_0, hc125_21_1⟩ := bc2 BK125.out; obtain ⟨hc126_21_0, hc126_21_1⟩ := bc2 BK126.out; obtain ⟨hc135_21_0, hc135_21_1⟩ := bc2 BK135.out; obtain ⟨hf21_0, hf21_1⟩ := bf2 BK126.out) | (go_at_call 14; (with_reducible refine (span_Valid.calls t130 t134 _ _ hV3.out).mono ?_); rintro e w22 ⟨rfl, hb⟩; have n0_ := Aside0.mk (blk_below (bg BK124.out) hb); have n1_ := Aside0.mk (blk_below (bg BK125.out) hb); have n2_ := Aside0.mk (blk_below (bg BK126.out) hb); have n3_ := Aside0.mk (blk_below (bg BK135.out) hb); have n4_ := Aside0.mk (below_step (bs HB.out) hb); clear BK124 BK125 BK126 BK135 HB hb; have BK124 := n0_; have BK125 := n1_; have BK126 := n2_; have BK135 := n3_; have HB := n4_; clear n0_ n1_ n2_ n3_ n4_; obtain ⟨hc124_22_0, hc124_22_1⟩ := bc2 BK124.out; obtain ⟨hc125_22_0, hc125_22_1⟩ := bc2 BK125.out; obtain ⟨hc126_22_0, hc126_22_1⟩ := bc2 BK126.out; obtain ⟨hc135_22_0, hc135_22_1⟩ := bc2 BK135.out; obtain ⟨hf22_0, hf22_1⟩ := bf2 BK126.out))
  refine bodyPost_ret (results_ct rfl _ _ gb126 25 #[.int .i64 0, .int .i64 0] (0, 0) _ rfl (pt2 (bg BK126.out)) Try.underlying25 rfl (by kernel_rfl)) rfl ?_
  exact ⟨rfl, bs HB.out⟩
 ·
  have hr_ := HH.out
  simp only [Bool.false_and, Bool.and_false, Bool.true_and, if_neg (show ¬ (false = true) by decide), if_pos, Option.some.injEq, Prod.mk.injEq] at hr_
  obtain ⟨rfl, rfl, rfl⟩ := hr_
  clear HH
  go_wp2_with (first | ((with_reducible refine gate_callee (f := 14) rfl ?_); refine goesL_ (some 21) rfl rfl Try.func14 (by kernel_rfl) rfl #[.agg #[.int .i64 a0_0, .int .i64 a0_1]] rfl (by (try simp only [List.map_toArray, List.map_cons, List.map_nil]); first | done | rfl | (simp only [List.length_drop, List.length_take]; rfl)) ?_; (with_reducible refine (span_Valid.calls a0_0 a0_1 _ _ hV1.out).mono ?_); rintro e w20 ⟨rfl, hb⟩; refine ⟨_, rfl, ?_⟩; have n0_ := Aside0.mk (blk_below (bg BK124.out) hb); have n1_ := Aside0.mk (blk_below (bg BK125.out) hb); have n2_ := Aside0.mk (blk_below (bg BK126.out) hb); have n3_ := Aside0.mk (blk_below (bg BK135.out) hb); have n4_ := Aside0.mk (below_step (bs HB.out) hb); clear BK124 BK125 BK126 BK135 HB hb; have BK124 := n0_; have BK125 := n1_; have BK126 := n2_; have BK135 := n3_; have HB := n4_; clear n0_ n1_ n2_ n3_ n4_; obtain ⟨hc124_20_0, hc124_20_1⟩ := bc2 BK124.out; obtain ⟨hc125_20_0, hc125_20_1⟩ := bc2 BK125.out; obtain ⟨hc126_20_0, hc126_20_1⟩ := bc2 BK126.out; obtain ⟨hc135_20_0, hc135_20_1⟩ := bc2 BK135.out; obtain ⟨hf20_0, hf20_1⟩ := bf2 BK126.out) | (go_at_call 14; (with_reducible refine (span_Valid.calls a1_0 a1_1 _ _ hV2.out).mono ?_); rintro e w21 ⟨rfl, hb⟩; have n0_ := Aside0.mk (blk_below (bg BK124.out) hb); have n1_ := Aside0.mk (blk_below (bg BK125.out) hb); have n2_ := Aside0.mk (blk_below (bg BK126.out) hb); have n3_ := Aside0.mk (blk_below (bg BK135.out) hb); have n4_ := Aside0.mk (below_step (bs HB.out) hb); clear BK124 BK125 BK126 BK135 HB hb; have BK124 := n0_; have BK125 := n1_; have BK126 := n2_; have BK135 := n3_; have HB := n4_; clear n0_ n1_ n2_ n3_ n4_; obtain ⟨hc124_21_0, hc124_21_1⟩ := bc2 BK124.out; obtain ⟨hc125_21_0, hc125_21_1⟩ := bc2 BK125.out; obtain ⟨hc126_21_0, hc126_21_1⟩ := bc2 BK126.out; obtain ⟨hc135_21_0, hc135_21_1⟩ := bc2 BK135.out; obtain ⟨hf21_0, hf21_1⟩ := bf2 BK126.out) | (go_at_call 14; (with_reducible refine (span_Valid.calls t130 t134 _ _ hV3.out).mono ?_); rintro e w22 ⟨rfl, hb⟩; have n0_ := Aside0.mk (blk_below (bg BK124.out) hb); have n1_ := Aside0.mk (blk_below (bg BK125.out) hb); have n2_ := Aside0.mk (blk_below (bg BK126.out) hb); have n3_ := Aside0.mk (blk_below (bg BK135.out) hb); have n4_ := Aside0.mk (below_step (bs HB.out) hb); clear BK124 BK125 BK126 BK135 HB hb; have BK124 := n0_; have BK125 := n1_; have BK126 := n2_; have BK135 := n3_; have HB := n4_; clear n0_ n1_ n2_ n3_ n4_; obtain ⟨hc124_22_0, hc124_22_1⟩ := bc2 BK124.out; obtain ⟨hc125_22_0, hc125_22_1⟩ := bc2 BK125.out; obtain ⟨hc126_22_0, hc126_22_1⟩ := bc2 BK126.out; obtain ⟨hc135_22_0, hc135_22_1⟩ := bc2 BK135.out; obtain ⟨hf22_0, hf22_1⟩ := bf2 BK126.out))
  refine bodyPost_ret (results_ct rfl _ _ gb126 25 #[.int .i64 t130, .int .i64 t134] (0, 0) _ rfl (pt2 (bg BK126.out)) Try.underlying25 rfl (by kernel_rfl)) rfl ?_
  exact ⟨rfl, bs HB.out⟩
end Go.Proofs.Ytejmegaalfblmaa.H
