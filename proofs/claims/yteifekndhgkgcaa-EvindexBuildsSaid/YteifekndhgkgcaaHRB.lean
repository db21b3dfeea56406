/- ref46.Build: what the code computes; no condition. -/
import Derived.Test.YteifekndhgkgcaaHPut
namespace Go.Proofs.Yteifekndhgkgcaa.H
open Go.RowKit Go.Proofs.YteifekndhgkgcaaW.PrintWords Go.Proofs.YteifekndhgkgcaaW.PrintLast Go.Proofs.YteifekndhgkgcaaW.PrintMore
attribute [local go_sem] max2_int min2_int max_two min_two max_three min_three max_four min_four
set_option linter.unusedVariables false
set_option linter.unusedSimpArgs false
/-! ### signalbenchref46_Build: function 12 -/
def signalbenchref46_Build.l0 : Nat → List (S47) → Int → Int → List (S43) → Option (Int × (List (S43)))
 | 0, _, _, _, _ => none
 | k + 1, x0, x4, x148000, x148001 => if x4 < (x0.length : Int) then (if 0 ≤ x4 then ((signalbenchref46_put.f k x148001 ((rd_T47 x0 x4).f0) ((rd_T47 x0 x4).f2.f0) x4).bind fun t150 => (signalbenchref46_Build.l0 k x0 (wrap64 (x4 + 1)) x148000 t150)) else (none)) else (some (x148000, x148001))
def signalbenchref46_Build.f (k : Nat) (l0 : List (S47)) : Option (Int × (List (S43))) := signalbenchref46_Build.l0 k l0 0 (l0.length : Int) ([] : List (S43))
def signalbenchref46_Build.T5 : Bool × List (List Nat × List Nat) := (true, [([], []), ([0], [0]), ([], []), ([], []), ([2, 3], [2, 3]), ([4], [4]), ([5], [5]), ([], []), ([], []), ([7, 8], [7, 8]), ([9], [9]), ([10], [10]), ([11], [11]), ([], []), ([1, 6, 12, 13], [1, 6, 12, 13]), ([0, 1, 2, 3, 4, 5, 6, 7, 8, 9, 10, 11, 12, 13, 14], []), ([15, 14, 14, 0, 1, 2, 3, 4, 5, 6, 7, 8, 9, 10, 11, 12, 13, 14], [14, 15])])
def signalbenchref46_Build.B5 : List Nat := [0, 1, 0, 0, 12, 28, 60, 0, 0, 384, 896, 1920, 3968, 0, 16383, 32767, 65535]
theorem signalbenchref46_Build.tab5 : rtab .any (opsOf Try.f12 5) = signalbenchref46_Build.T5 := by kernel_rfl
theorem signalbenchref46_Build.bits5 : waitsOk signalbenchref46_Build.T5.2 signalbenchref46_Build.B5 = true := by kernel_rfl
set_option maxHeartbeats 8000000 in
set_option maxRecDepth 100000 in
theorem signalbenchref46_Build.calls (k : Nat) (A0 : Option Addr) (c0 : Nat) (l0 : List (S47)) (r1 : Int) (r2 : List (S43)) (w : World) (hr0 : Kd.C k47 w A0 l0.length l0) (hc0 : l0.length ≤ c0) (h : signalbenchref46_Build.f k l0 = some (r1, r2)) :
  Calls Try.prog 12 #[.slice A0 l0.length c0] w fun e w' => ∃ v1_ : Value, e = .returned (.agg #[.int .i64 r1, v1_]) ∧ Kd.N k43 43 w' w.heap.size (fun k_ => (w.heap.size ≤ k_)) v1_ r2 ∧ Below w.heap.size w w' := by
 have hu27 := Try.underlying27
 have HR0 := Aside0.mk hr0
 have HC0 := Aside0.mk hc0
 clear hr0 hc0
 have HB := Aside0.mk (Below.refl w.heap.size w)
 have H : (signalbenchref46_Build.l0 k l0 0 (l0.length : Int) ([] : List (S43))) = some (r1, r2) := h
 clear h
 have H' := Aside0.mk H
 clear H
 go_enter Try.func12, Try.ntmps12
 go_wp2_with (first | ((with_reducible refine gate_dst (N := 2) rfl ?_); refine box_event ?hg (N := 2) ?hd (cs := #[.int .i64 0, .slice none 0 0]) (t := 27) ?hr ?_; (case hd => rfl); (case hg => rfl); (case hr => first | (go_simp; done) | (go_simp; rfl)); intro gb146 hg w2 hbox hb; have n0_ := Aside0.mk (below_step (bs HB.out) hb); have n1_ := Aside0.mk (hbox); have n2_ := Aside0.mk ((by rw [hg]; exact (below_size (bs HB.out)) : w.heap.size ≤ gb146)); have n3_ := n2_; clear HB; have HB := n0_; have BK146 := n1_; have GW146 := n2_; have GE146 := n3_; clear n0_ n1_ n2_ n3_; clear hb hbox hg) | ((with_reducible refine gate_dst (N := 3) rfl ?_); refine box_event ?hg (N := 3) ?hd (cs := #[.int .i64 0, .slice none 0 0]) (t := 27) ?hr ?_; (case hd => rfl); (case hg => rfl); (case hr => first | (go_simp; done) | (go_simp; rfl)); intro gb147 hg w3 hbox hb; have n0_ := Aside0.mk (blk_below (bg BK146.out) hb); have n1_ := Aside0.mk (below_step (bs HB.out) hb); have n2_ := Aside0.mk (hbox); have n3_ := Aside0.mk ((by rw [hg]; exact (below_size (bs HB.out)) : w.heap.size ≤ gb147)); have n4_ := n3_; have n5_ := Aside0.mk ((by rw [hg]; exact Nat.ne_of_lt (blk_lt (bg BK146.out)) : gb146 ≠ gb147)); have n6_ := Aside0.mk ((by rw [hg]; exact Nat.ne_of_gt (blk_lt (bg BK146.out)) : gb147 ≠ gb146)); clear BK146; clear HB; have BK146 := n0_; have HB := n1_; have BK147 := n2_; have GW147 := n3_; have GE147 := n4_; have NB146_147 := n5_; have NB147_146 := n6_; clear n0_ n1_ n2_ n3_ n4_ n5_ n6_; clear hb hbox hg; have hnb4 := NB147_146.out; have hnc4 := NB146_147.out; obtain ⟨hcz5_0, hcz5_1⟩ := bc2 BK147.out; obtain ⟨hfz5_0, hfz5_1⟩ := bf2 BK147.out))
 go_loopg [4] k (fun kq v4 w' => ∃ (x4_1 : Int) (x148001_1 : List (S43)) (u148001 : Value), v4 = .int .i64 x4_1 ∧ Aside0 (signalbenchref46_Build.l0 kq l0 x4_1 (l0.length : Int) x148001_1 = some (r1, r2)) ∧ Aside0 (kq ≤ k) ∧ Aside0 (Kd.N k43 43 w' w.heap.size (fun k_ => (w.heap.size ≤ k_) ∧ k_ ≠ gb146 ∧ k_ ≠ gb147) u148001 x148001_1) ∧ Aside0 (w'.heap[gb146]? = some (.cells #[.int .i64 0, (.slice none 0 0)] 27 (0, 0))) ∧ Aside0 (w'.heap[gb147]? = some (.cells #[.int .i64 (l0.length : Int), u148001] 27 (0, 0))) ∧ Aside0 (Below w.heap.size w w'))
 case atStart => exact ⟨(0), (([] : List (S43))), (.slice none 0 0), (by first | rfl | (simp; done) | (simp [*]; done)), H', ⟨Nat.le_refl _⟩, ⟨by first | exact Kd.S_nil _ _ _ _ _ | exact Kd.N_nil _ _ _ _ _ | exact Kd.V_nil _ _ _ _ _ | exact Kd.Q_nil _ _ _ _ _ | exact Kd.R_nil _ _ _ _ _⟩, ⟨by (iterate 2 (with_reducible repeat (first | refine blk_drewN ?_ _ | refine blk_drew ?_ | refine blk_alloc ?_ _)); refine blk_far ?_ NB146_147.out _); exact bg BK146.out⟩, ⟨by exact pt2 (bg BK147.out)⟩, ⟨bs HB.out⟩⟩
 case round =>
  clear H'
  try clear c1
  try clear p2
  try clear c4
  try clear hcz5_0 hcz5_1
  try clear hfz5_0 hfz5_1
  obtain ⟨x4_1, x148001_1, u148001, rfl, HA, HK1, HO_148001, BK146, BK147, HB⟩ := hrel
  cases gk with
  | zero => exact absurd HA.out (by simp [signalbenchref46_Build.l0])
  | succ k1 =>
   have H := HA.out
   clear HA
   simp only [signalbenchref46_Build.l0] at H
   by_cases c6 : x4_1 < (l0.length : Int)
   ·
    rw [if_pos c6] at H
    have c6b0 : decide (x4_1 < (l0.length : Int)) = true := decide_eq_true c6
    clear c6
    by_cases c7 : 0 ≤ x4_1
    ·
     rw [if_pos c7] at H
     have c7b0 : decide (0 ≤ x4_1) = true := decide_eq_true c7
     clear c7
     replace H := Option.bind_eq_some_iff.mp H
     obtain ⟨t150, A80, H⟩ := H
     replace H : (signalbenchref46_Build.l0 k1 l0 (wrap64 (x4_1 + 1)) (l0.length : Int) t150) = some (r1, r2) := H
     have A8 := Aside0.mk A80
     clear A80
     have H' := Aside0.mk H
     clear H
     try go_wp2
     have n0_ := Aside0.mk (Kd.N_drew HO_148001.out)
     have n1_ := Aside0.mk (blk_drew BK146.out)
     have n2_ := Aside0.mk (blk_drew BK147.out)
     have n3_ := Aside0.mk (below_drew1 HB.out)
     clear HO_148001
     clear BK146
     clear BK147
     clear HB
     have HO_148001 := n0_
     have BK146 := n1_
     have BK147 := n2_
     have HB := n3_
     clear n0_ n1_ n2_ n3_
     have p148 : 0 ≤ (x4_1 : Int) := of_decide_eq_true (by first | (with_reducible assumption) | assumption)
     have q148 : x4_1 < (l0.length : Int) := of_decide_eq_true (by first | (with_reducible assumption) | assumption)
     obtain ⟨ad148, e148, hx148_0, hx148_1, hx148_2, hx148_3, hx148_4, hx148_5, hx148_6, hx148_7, hx148_8⟩ := at_T47 HR0.out x4_1 p148 q148
     have hw148_8 := hx148_8
     have hw148_7 := hx148_7
     have hw148_6 := hx148_6
     have hw148_5 := hx148_5
     have hw148_4 := hx148_4
     have hw148_3 := hx148_3
     have hw148_2 := hx148_2
     have hw148_1 := hx148_1
     have hw148_0 := hx148_0
     cases e148
     replace hx148_0 := pw_cell_below HB.out hx148_0
     replace hx148_1 := pw_cell_below HB.out hx148_1
     replace hx148_2 := pw_cell_below HB.out hx148_2
     replace hx148_3 := pw_cell_below HB.out hx148_3
     replace hx148_4 := pw_cell_below HB.out hx148_4
     replace hx148_5 := pw_cell_below HB.out hx148_5
     replace hx148_6 := pw_cell_below HB.out hx148_6
     replace hx148_7 := pw_cell_below HB.out hx148_7
     replace hx148_8 := pw_cell_below HB.out hx148_8
     replace p148 := eq_true p148
     replace q148 := eq_true q148
     have p149 : 0 ≤ (x4_1 : Int) := of_decide_eq_true (by first | (with_reducible assumption) | assumption)
     have q149 : x4_1 < (l0.length : Int) := of_decide_eq_true (by first | (with_reducible assumption) | assumption)
     obtain ⟨ad149, e149, hx149_0, hx149_1, hx149_2, hx149_3, hx149_4, hx149_5, hx149_6, hx149_7, hx149_8⟩ := at_T47 HR0.out x4_1 p149 q149
     have hw149_8 := hx149_8
     have hw149_7 := hx149_7
     have hw149_6 := hx149_6
     have hw149_5 := hx149_5
     have hw149_4 := hx149_4
     have hw149_3 := hx149_3
     have hw149_2 := hx149_2
     have hw149_1 := hx149_1
     have hw149_0 := hx149_0
     obtain rfl : ad148 = ad149 := (by injection e149)
     replace hx149_0 := pw_cell_below HB.out hx149_0
     replace hx149_1 := pw_cell_below HB.out hx149_1
     replace hx149_2 := pw_cell_below HB.out hx149_2
     replace hx149_3 := pw_cell_below HB.out hx149_3
     replace hx149_4 := pw_cell_below HB.out hx149_4
     replace hx149_5 := pw_cell_below HB.out hx149_5
     replace hx149_6 := pw_cell_below HB.out hx149_6
     replace hx149_7 := pw_cell_below HB.out hx149_7
     replace hx149_8 := pw_cell_below HB.out hx149_8
     replace p149 := eq_true p149
     replace q149 := eq_true q149
     obtain ⟨Ao10, co10, eo10⟩ := Kd.N_slice HO_148001.out
     (first | subst eo10 | (injection eo10 with f1_ f2_ f3_; have f4_ := f1_.symm; have f5_ := f3_.symm; clear f1_ f2_ f3_; subst f4_; subst f5_))
     refine start_ (n := 17) (S := fun w' => w'.cell? ⟨gb147, 0, none⟩ = some (.int .i64 (l0.length : Int)) ∧ w'.cell? ⟨gb147, 1, none⟩ = some (.slice Ao10 x148001_1.length co10) ∧ w'.cell? (ad148.add ((x4_1).toNat * 9)) = some (.int .i64 ((rd_T47 l0 x4_1).f0)) ∧ w'.cell? ⟨(ad148.add ((x4_1).toNat * 9)).block, (ad148.add ((x4_1).toNat * 9)).off + 1, none⟩ = some (.int .i64 ((rd_T47 l0 x4_1).f1)) ∧ w'.cell? ⟨(ad148.add ((x4_1).toNat * 9)).block, (ad148.add ((x4_1).toNat * 9)).off + 2, none⟩ = some (.int .i64 ((rd_T47 l0 x4_1).f2.f0)) ∧ w'.cell? ⟨(ad148.add ((x4_1).toNat * 9)).block, (ad148.add ((x4_1).toNat * 9)).off + 3, none⟩ = some (.int .i64 ((rd_T47 l0 x4_1).f2.f1)) ∧ w'.cell? ⟨(ad148.add ((x4_1).toNat * 9)).block, (ad148.add ((x4_1).toNat * 9)).off + 4, none⟩ = some (.int .i64 ((rd_T47 l0 x4_1).f2.f2)) ∧ w'.cell? ⟨(ad148.add ((x4_1).toNat * 9)).block, (ad148.add ((x4_1).toNat * 9)).off + 5, none⟩ = some (.int .i64 ((rd_T47 l0 x4_1).f2.f3)) ∧ w'.cell? ⟨(ad148.add ((x4_1).toNat * 9)).block, (ad148.add ((x4_1).toNat * 9)).off + 6, none⟩ = some (.int .i64 ((rd_T47 l0 x4_1).f2.f4)) ∧ w'.cell? ⟨(ad148.add ((x4_1).toNat * 9)).block, (ad148.add ((x4_1).toNat * 9)).off + 7, none⟩ = some (.string ((rd_T47 l0 x4_1).f2.f5)) ∧ w'.cell? ⟨(ad148.add ((x4_1).toNat * 9)).block, (ad148.add ((x4_1).toNat * 9)).off + 8, none⟩ = some (.int .i64 ((rd_T47 l0 x4_1).f2.f6)) ∧ w'.cell? (ad148.add ((x4_1).toNat * 9)) = some (.int .i64 ((rd_T47 l0 x4_1).f0)) ∧ w'.cell? ⟨(ad148.add ((x4_1).toNat * 9)).block, (ad148.add ((x4_1).toNat * 9)).off + 1, none⟩ = some (.int .i64 ((rd_T47 l0 x4_1).f1)) ∧ w'.cell? ⟨(ad148.add ((x4_1).toNat * 9)).block, (ad148.add ((x4_1).toNat * 9)).off + 2, none⟩ = some (.int .i64 ((rd_T47 l0 x4_1).f2.f0)) ∧ w'.cell? ⟨(ad148.add ((x4_1).toNat * 9)).block, (ad148.add ((x4_1).toNat * 9)).off + 3, none⟩ = some (.int .i64 ((rd_T47 l0 x4_1).f2.f1)) ∧ w'.cell? ⟨(ad148.add ((x4_1).toNat * 9)).block, (ad148.add ((x4_1).toNat * 9)).off + 4, none⟩ = some (.int .i64 ((rd_T47 l0 x4_1).f2.f2)) ∧ w'.cell? ⟨(ad148.add ((x4_1).toNat * 9)).block, (ad148.add ((x4_1).toNat * 9)).off + 5, none⟩ = some (.int .i64 ((rd_T47 l0 x4_1).f2.f3)) ∧ w'.cell? ⟨(ad148.add ((x4_1).toNat * 9)).block, (ad148.add ((x4_1).toNat * 9)).off + 6, none⟩ = some (.int .i64 ((rd_T47 l0 x4_1).f2.f4)) ∧ w'.cell? ⟨(ad148.add ((x4_1).toNat * 9)).block, (ad148.add ((x4_1).toNat * 9)).off + 7, none⟩ = some (.string ((rd_T47 l0 x4_1).f2.f5)) ∧ w'.cell? ⟨(ad148.add ((x4_1).toNat * 9)).block, (ad148.add ((x4_1).toNat * 9)).off + 8, none⟩ = some (.int .i64 ((rd_T47 l0 x4_1).f2.f6))) (ds := [16]) (bsq 0 17) (by kernel_rfl) rfl rfl ⟨(blk_cell BK147.out 0).trans rfl, (blk_cell BK147.out 1).trans rfl, ((HB.out.cell (World.block_lt_of_cell? w _ hw148_0)).trans hw148_0), ((HB.out.cell (World.block_lt_of_cell? w _ hw148_1)).trans hw148_1), ((HB.out.cell (World.block_lt_of_cell? w _ hw148_2)).trans hw148_2), ((HB.out.cell (World.block_lt_of_cell? w _ hw148_3)).trans hw148_3), ((HB.out.cell (World.block_lt_of_cell? w _ hw148_4)).trans hw148_4), ((HB.out.cell (World.block_lt_of_cell? w _ hw148_5)).trans hw148_5), ((HB.out.cell (World.block_lt_of_cell? w _ hw148_6)).trans hw148_6), ((HB.out.cell (World.block_lt_of_cell? w _ hw148_7)).trans hw148_7), ((HB.out.cell (World.block_lt_of_cell? w _ hw148_8)).trans hw148_8), ((HB.out.cell (World.block_lt_of_cell? w _ hw149_0)).trans hw149_0), ((HB.out.cell (World.block_lt_of_cell? w _ hw149_1)).trans hw149_1), ((HB.out.cell (World.block_lt_of_cell? w _ hw149_2)).trans hw149_2), ((HB.out.cell (World.block_lt_of_cell? w _ hw149_3)).trans hw149_3), ((HB.out.cell (World.block_lt_of_cell? w _ hw149_4)).trans hw149_4), ((HB.out.cell (World.block_lt_of_cell? w _ hw149_5)).trans hw149_5), ((HB.out.cell (World.block_lt_of_cell? w _ hw149_6)).trans hw149_6), ((HB.out.cell (World.block_lt_of_cell? w _ hw149_7)).trans hw149_7), ((HB.out.cell (World.block_lt_of_cell? w _ hw149_8)).trans hw149_8)⟩ (fun hHeld => ?_); refine with_tabW signalbenchref46_Build.tab5 signalbenchref46_Build.bits5 (fun HT_ HW_ => ?_)
     generalize wr.drew = w9 at HO_148001 BK146 BK147 HB hx148_0 hx148_1 hx148_2 hx148_3 hx148_4 hx148_5 hx148_6 hx148_7 hx148_8 hx149_0 hx149_1 hx149_2 hx149_3 hx149_4 hx149_5 hx149_6 hx149_7 hx149_8 hHeld ⊢
     refine pu 0 14 (bsq 1 16) ?_
     refine pu 2 16 (bls [1, 1, 1, 14]) ?_
     refine pu 3 17 (bls [1, 1, 2, 13]) ?_
     refine pu 4 18 (bls [1, 1, 3, 12]) ?_
     refine pu 5 19 (bls [1, 1, 4, 11]) ?_
     refine pu 7 21 (bls [1, 1, 4, 1, 1, 9]) ?_
     refine pu 8 22 (bls [1, 1, 4, 1, 2, 8]) ?_
     refine pu 9 23 (bls [1, 1, 4, 1, 3, 7]) ?_
     refine pu 10 24 (bls [1, 1, 4, 1, 4, 6]) ?_
     refine pu 11 25 (bls [1, 1, 4, 1, 5, 5]) ?_
     refine pu 13 27 (bls [1, 1, 4, 1, 5, 1, 1, 3]) ?_
     refine tk 1 15 (bls [6, 1, 5, 1, 1, 3]) hHeld ?_ (he := by rintro w' ⟨s0, s1, s2, s3, s4, s5, s6, s7, s8, s9, s10, s11, s12, s13, s14, s15, s16, s17, s18, s19⟩; go_simp; with_reducible rfl)
     refine tk 6 20 (bls [12, 1, 1, 3]) hHeld ?_ (he := by rintro w' ⟨s0, s1, s2, s3, s4, s5, s6, s7, s8, s9, s10, s11, s12, s13, s14, s15, s16, s17, s18, s19⟩; go_simp; with_reducible rfl)
     refine tk 12 26 (bsq 14 3) hHeld ?_ (he := by rintro w' ⟨s0, s1, s2, s3, s4, s5, s6, s7, s8, s9, s10, s11, s12, s13, s14, s15, s16, s17, s18, s19⟩; go_simp; with_reducible rfl)
     refine one_ (i := 14) (N := some 28) (bsq 15 2) rfl rfl (one_of HT_.out (by kernel_rfl)) (by decide) (fun K hK => ?_)
     refine goes_ Try.func26 (by kernel_rfl) rfl #[.slice Ao10 x148001_1.length co10, .int .i64 ((rd_T47 l0 x4_1).f0), .int .i64 ((rd_T47 l0 x4_1).f2.f0), .int .i64 x4_1] (by rfl) rfl rfl (by (try simp only [List.map_toArray, List.map_cons, List.map_nil]); first | done | rfl | (simp only [List.length_drop, List.length_take]; rfl)) ?_
     with_reducible refine (signalbenchref46_put.calls k1 (fun k_ => ((w.heap.size ≤ k_) ∧ (k_ ≠ gb146 ∧ k_ ≠ gb147))) _ _ x148001_1 ((rd_T47 l0 x4_1).f0) ((rd_T47 l0 x4_1).f2.f0) x4_1 t150 _ ?side1 A8.out).mono ?_
     (case side1 => exact Kd.N_V (HO_148001.out))
     rintro e w11 ⟨v151, rfl, ho0, hb⟩
     refine ⟨_, rfl, ?_⟩
     have n0_ := Aside0.mk (Kd.N_elder' (by (with_reducible repeat (first | apply Kd.N_alloc | apply Kd.N_drewN | apply Kd.N_drew)); exact HO_148001.out) (Kd.N_base ho0) hb)
     have n1_ := Aside0.mk (Kd.N_lower (Kd.N_mono (ok' := fun k_ => (w.heap.size ≤ k_) ∧ k_ ≠ gb146 ∧ k_ ≠ gb147) ho0 (fun k_ hk_ => ⟨Or.elim hk_ (fun hs_ => hs_.1) (fun hn_ => (Nat.le_trans (below_size (bs HB.out)) hn_)), Or.elim hk_ (fun hs_ => hs_.2.1) (fun hn_ => (Kd.freshB (g := gb146) (o := .cells #[.int .i64 0, .slice none 0 0] 27 (0, 0)) (bg BK146.out) k_ hn_)), Or.elim hk_ (fun hs_ => hs_.2.2) (fun hn_ => (Kd.freshB (g := gb147) (o := .cells #[.int .i64 (l0.length : Int), .slice Ao10 x148001_1.length co10] 27 (0, 0)) (bg BK147.out) k_ hn_))⟩)) (below_size (bs HB.out)))
     have n2_ := Aside0.mk (blk_below (bg BK146.out) hb)
     have n3_ := Aside0.mk (blk_below (bg BK147.out) hb)
     have n4_ := Aside0.mk (below_step (bs HB.out) hb)
     clear HO_148001
     clear BK146
     clear BK147
     clear HB
     have HO_148001 := n0_
     have HO152 := n1_
     have BK146 := n2_
     have BK147 := n3_
     have HB := n4_
     clear n0_ n1_ n2_ n3_ n4_
     (try clear hb)
     (try clear hb2)
     (try clear hk)
     (try clear hi)
     (try clear ho0)
     obtain ⟨Ao12, co12, eo12⟩ := Kd.N_slice HO152.out
     (first | subst eo12 | (injection eo12 with f1_ f2_ f3_; have f4_ := f1_.symm; have f5_ := f3_.symm; clear f1_ f2_ f3_; subst f4_; subst f5_))
     refine hK.out _ _ ⟨(blk_cell BK147.out 0).trans rfl, (blk_cell BK147.out 1).trans rfl, ((HB.out.cell (World.block_lt_of_cell? w _ hw148_0)).trans hw148_0), ((HB.out.cell (World.block_lt_of_cell? w _ hw148_1)).trans hw148_1), ((HB.out.cell (World.block_lt_of_cell? w _ hw148_2)).trans hw148_2), ((HB.out.cell (World.block_lt_of_cell? w _ hw148_3)).trans hw148_3), ((HB.out.cell (World.block_lt_of_cell? w _ hw148_4)).trans hw148_4), ((HB.out.cell (World.block_lt_of_cell? w _ hw148_5)).trans hw148_5), ((HB.out.cell (World.block_lt_of_cell? w _ hw148_6)).trans hw148_6), ((HB.out.cell (World.block_lt_of_cell? w _ hw148_7)).trans hw148_7), ((HB.out.cell (World.block_lt_of_cell? w _ hw148_8)).trans hw148_8), ((HB.out.cell (World.block_lt_of_cell? w _ hw149_0)).trans hw149_0), ((HB.out.cell (World.block_lt_of_cell? w _ hw149_1)).trans hw149_1), ((HB.out.cell (World.block_lt_of_cell? w _ hw149_2)).trans hw149_2), ((HB.out.cell (World.block_lt_of_cell? w _ hw149_3)).trans hw149_3), ((HB.out.cell (World.block_lt_of_cell? w _ hw149_4)).trans hw149_4), ((HB.out.cell (World.block_lt_of_cell? w _ hw149_5)).trans hw149_5), ((HB.out.cell (World.block_lt_of_cell? w _ hw149_6)).trans hw149_6), ((HB.out.cell (World.block_lt_of_cell? w _ hw149_7)).trans hw149_7), ((HB.out.cell (World.block_lt_of_cell? w _ hw149_8)).trans hw149_8)⟩ (fun hHeld => ?_)
     clear hK K
     refine norm_ (a' := ?_) ?_ ?_
     rotate_left
     ·
      show Act.put _ (some 28) _ = _
      simp only [Act.put, List.setIfInBounds_toArray, List.set_cons_zero, List.set_cons_succ, i64_w, i32_w]
      rfl
     refine pu 15 29 (bsq 16 1) ?_
     refine last_ (i := 16) (N := none) (bsq 17 0) rfl rfl (one_of HT_.out (by kernel_rfl)) (by decide) (fun K hK => ?_)
     have hs13 : w11.cell? ⟨gb147, 1, none⟩ = some (.slice Ao10 x148001_1.length co10) := (blk_cell BK147.out 1).trans rfl
     have hfs13 := blk_frozen BK147.out 1
     have hns13_0 := NB146_147.out
     have hms13_0 := NB147_146.out
     refine skip_ (w1 := ?_) (by rfl) rfl ?_ ?_
     rotate_left
     ·
      go_simp
      rfl
     refine hK.out _ _ ?_
     clear hK K
     refine done_ (done_of HT_.out (by kernel_rfl)) ?_
     try go_wp2
     go_roundg k1
     case measure => have := HK1.out; omega
     case rel => exact ⟨(wrap64 (x4_1 + 1)), (t150), (.slice Ao12 t150.length co12), (by first | rfl | (simp; done) | (simp [*]; done)), H', ⟨by have := HK1.out; omega⟩, ⟨by (with_reducible repeat (first | apply Kd.N_alloc | apply Kd.N_drewN | apply Kd.N_drew)); exact Kd.N_mono (Kd.N_far (p := ⟨gb147, 1, none⟩) (Kd.N_mono HO152.out (fun k_ hk => (⟨hk, hk.2.2⟩ : _ ∧ k_ ≠ gb147))) (fun _ hk => hk.2) (.slice Ao12 t150.length co12)) (fun _ hk => ⟨hk.1.1, ⟨hk.1.2.1, hk.1.2.2⟩⟩)⟩, ⟨by (with_reducible repeat (first | refine blk_drewN ?_ _ | refine blk_drew ?_ | refine blk_alloc ?_ _)); refine blk_far ?_ NB146_147.out _; exact bg BK146.out⟩, ⟨by (with_reducible repeat (first | refine blk_drewN ?_ _ | refine blk_drew ?_ | refine blk_alloc ?_ _)); refine blk_put (cs := #[.int .i64 (l0.length : Int), .slice Ao10 x148001_1.length co10]) ?_ 1 _ rfl; exact bg BK147.out⟩, ⟨bs HB.out⟩⟩
    ·
     rw [if_neg c7] at H
     exact absurd H (by simp)
   ·
    rw [if_neg c6] at H
    have c6b0 : decide (x4_1 < (l0.length : Int)) = false := decide_eq_false c6
    clear c6
    simp only [Option.some.injEq, Prod.mk.injEq] at H
    obtain ⟨rfl, rfl⟩ := H
    have hnb14 := NB147_146.out
    have hnc14 := NB146_147.out
    obtain ⟨hcz15_0, hcz15_1⟩ := bc2 BK147.out
    obtain ⟨hfz15_0, hfz15_1⟩ := bf2 BK147.out
    obtain ⟨hcz16_0, hcz16_1⟩ := bc2 BK146.out
    obtain ⟨hfz16_0, hfz16_1⟩ := bf2 BK146.out
    obtain ⟨Ao17, co17, eo17⟩ := Kd.N_slice HO_148001.out
    subst eo17
    go_wp2
    refine bodyPost_ret (results_cell_row rfl _ _ gb146 27 #[.int .i64 (l0.length : Int), .slice Ao17 x148001_1.length co17] (0, 0) _ rfl (by exact pt2 (bg BK146.out)) Try.underlying27 rfl (by kernel_rfl)) rfl ?_
    exact ⟨_, by first | rfl | (simp [errW_none, errW_some] <;> rfl) | (simp [*, errW_none, errW_some] <;> rfl), by (with_reducible repeat (first | apply Kd.N_alloc | apply Kd.N_drewN | apply Kd.N_drew)); exact Kd.N_mono (Kd.N_far (p := ⟨gb146, 1, none⟩) (Kd.N_far (p := ⟨gb146, 0, none⟩) (Kd.N_mono HO_148001.out (fun k_ hk => (⟨hk, hk.2.1⟩ : _ ∧ k_ ≠ gb146))) (fun _ hk => hk.2) (.int .i64 (l0.length : Int))) (fun _ hk => hk.2) (.slice Ao17 x148001_1.length co17)) (fun _ hk => hk.1.1), bs HB.out⟩
end Go.Proofs.Yteifekndhgkgcaa.H
