-- Printed by wip/hprint.py (this project's own driver of the kit's print) out of the translation; Lean checks it.
import Derived.Test.YtgdjiphljadlcaaK0
import Derived.Test.YtgdjiphljadlcaaK4
import Derived.Test.YtgdjiphljadlcaaK8
import Derived.Test.YtgdjiphljadlcaaK12
namespace Go.Proofs.Ytgdjiphljadlcaa.K
open Go.RowKit Go.Proofs.YtgdjiphljadlcaaW.PrintWords Go.Proofs.YtgdjiphljadlcaaW.PrintLast Go.Proofs.YtgdjiphljadlcaaW.PrintMore
attribute [local go_sem] max2_int min2_int max_two min_two max_three min_three max_four min_four   -- for this text's walks alone
set_option linter.unusedVariables false
set_option linter.unusedSimpArgs false

/-! ### search_layers: function 63 -/
mutual
def search_layers.l0 : Nat → List (S46) → List Bool → List (S46) → Int → Int → List (S50) → Option ((List (List Bool)))
 | 0, _, _, _, _, _, _ => none
 | k + 1, x1, x5, x17, x18, x19, x156000 => if x19 < x18 then (if 0 ≤ x19 then (if x19 < (x17.length : Int) then (if 0 < (x156000.length : Int) then ((search_satisfies.f k ((rd_T50 x156000 0).f0.f0) ((rd_T50 x156000 0).f0.f1) ((rd_T50 x156000 0).f0.f2) ((rd_T50 x156000 0).f0.f3) ((rd_T50 x156000 0).f0.f4) ((rd_T46 x17 x19).f0) ((rd_T46 x17 x19).f1) ((rd_T46 x17 x19).f2.f0) ((rd_T46 x17 x19).f2.f1) ((rd_T46 x17 x19).f2.f2) ((rd_T46 x17 x19).f2.f3) ((rd_T46 x17 x19).f2.f4) ((rd_T46 x17 x19).f2.f5) ((rd_T46 x17 x19).f2.f6)).bind fun t163 => (if x19 < (x5.length : Int) then (search_layers.l0 k x1 (x5.set (x19 : Int).toNat t163) x17 x18 (wrap64 (x19 + 1)) x156000) else (none))) else (none)) else (none)) else (none)) else (if 1 ≤ (x156000.length : Int) then ((some (x156000.drop 1 : List (S50))).bind fun y168 => (search_layers.l1 k x1 (([x5] : List (List Bool))) y168 (y168.length : Int) 0)) else (none))
def search_layers.l1 : Nat → List (S46) → List (List Bool) → List (S50) → Int → Int → Option ((List (List Bool)))
 | 0, _, _, _, _, _ => none
 | k + 1, x1, x8, x39, x40, x41 => if x41 < x40 then (if 0 ≤ x41 then (if x41 < (x39.length : Int) then (if x41 < (x8.length : Int) then ((search_reach.f k ((rd_T50 x39 x41).f0.f0) ((rd_T50 x39 x41).f0.f1) ((rd_T50 x39 x41).f0.f2) ((rd_T50 x39 x41).f0.f3) ((rd_T50 x39 x41).f0.f4) ((rd_T50 x39 x41).f1) ((rd_T50 x39 x41).f2) ((rd_T50 x39 x41).f3.f0) ((rd_T50 x39 x41).f3.f1) ((rd_T50 x39 x41).f3.f2) ((rd_T50 x39 x41).f3.f3) ((rd_T50 x39 x41).f3.f4) x1 (rd_L11 x8 x41)).bind fun t175 => (if x8.length < 5864062014805 then (search_layers.l1 k x1 (x8 ++ [t175]) x39 x40 (wrap64 (x41 + 1))) else (none))) else (none)) else (none)) else (none)) else (some x8)
end
def search_layers.f (k : Nat) (l0_0 : List (S50)) (l1 : List (S46)) : Option ((List (List Bool))) := (trigauto_Check.f k l0_0).bind fun t156 => (if t156 = 0 then (if 0 ≤ (l1.length : Int) then (if ((l1.length : Int) : Int).toNat ≤ 281474976710656 then (search_layers.l0 k l1 (List.replicate ((l1.length : Int) : Int).toNat false) l1 (l1.length : Int) 0 l0_0) else (none)) else (none)) else (some ([] : List (List Bool))))
def search_layers.T7 : Bool × List (List Nat × List Nat) := (true, [([], []), ([], []), ([], []), ([2], [2]), ([3], [3]), ([4], [4]), ([5], [5]), ([], []), ([6, 7], [6, 7]), ([0, 1, 0, 1, 2, 3, 4, 5, 6, 7, 8], [0, 1]), ([9, 8, 8, 0, 1, 2, 3, 4, 5, 6, 7, 8], [8, 9])])
def search_layers.B7 : List Nat := [0, 0, 0, 4, 12, 28, 60, 0, 252, 511, 1023]
theorem search_layers.tab7 : rtab .any (opsOf Try.f63 7) = search_layers.T7 := by kernel_rfl
theorem search_layers.bits7 : waitsOk search_layers.T7.2 search_layers.B7 = true := by kernel_rfl
def search_layers.T13 : Bool × List (List Nat × List Nat) := (true, [([], []), ([], []), ([], []), ([], []), ([], []), ([3, 4], [3, 4]), ([5], [5]), ([1, 2, 6], [1, 2, 6]), ([7], [7]), ([0, 8, 7], [0, 8]), ([9, 9, 0, 1, 2, 3, 4, 5, 6, 7, 8, 9], [0, 3, 9])])
def search_layers.B13 : List Nat := [0, 0, 0, 0, 0, 24, 56, 126, 254, 511, 1023]
theorem search_layers.tab13 : rtab .any (opsOf Try.f63 13) = search_layers.T13 := by kernel_rfl
theorem search_layers.bits13 : waitsOk search_layers.T13.2 search_layers.B13 = true := by kernel_rfl
set_option maxHeartbeats 8000000 in
set_option maxRecDepth 100000 in
theorem search_layers.calls (k : Nat) (A0_0 : Option Addr) (c0_0 : Nat) (l0_0 : List (S50)) (A1 : Option Addr) (c1 : Nat) (l1 : List (S46)) (r : List (List Bool)) (w : World) (hr0_0 : Kd.C k50 w A0_0 l0_0.length l0_0) (hc0_0 : l0_0.length ≤ c0_0) (hr1 : Kd.C k46 w A1 l1.length l1) (hc1 : l1.length ≤ c1) (h : search_layers.f k l0_0 l1 = some r) :
  Calls Try.prog 63 #[.agg #[.slice A0_0 l0_0.length c0_0], .slice A1 l1.length c1] w fun e w' => ∃ v0_ : Value, e = .returned (v0_) ∧ Kd.N (Kd.slice 4 Kd.bool) 86 w' w.heap.size (fun k_ => (w.heap.size ≤ k_)) v0_ r ∧ Below w.heap.size w w' := by
 have hu31 := Try.underlying31
 have hu46 := Try.underlying46
 have hu42 := Try.underlying42
 have hu50 := Try.underlying50
 have HR0_0 := Aside0.mk hr0_0
 have HC0_0 := Aside0.mk hc0_0
 clear hr0_0 hc0_0
 have HR1 := Aside0.mk hr1
 have HC1 := Aside0.mk hc1
 clear hr1 hc1
 have HB := Aside0.mk (Below.refl w.heap.size w)
 have H : ((trigauto_Check.f k l0_0).bind fun t156 => (if t156 = 0 then (if 0 ≤ (l1.length : Int) then (if ((l1.length : Int) : Int).toNat ≤ 281474976710656 then (search_layers.l0 k l1 (List.replicate ((l1.length : Int) : Int).toNat false) l1 (l1.length : Int) 0 l0_0) else (none)) else (none)) else (some ([] : List (List Bool))))) = some r := h
 clear h
 replace H := Option.bind_eq_some_iff.mp H
 obtain ⟨t156, A30, H⟩ := H
 replace H : (if t156 = 0 then (if 0 ≤ (l1.length : Int) then (if ((l1.length : Int) : Int).toNat ≤ 281474976710656 then (search_layers.l0 k l1 (List.replicate ((l1.length : Int) : Int).toNat false) l1 (l1.length : Int) 0 l0_0) else (none)) else (none)) else (some ([] : List (List Bool)))) = some r := H
 have A3 := Aside0.mk A30
 clear A30
 by_cases c4 : t156 = 0
 ·
  rw [if_pos c4] at H
  have c4b0 : (t156 == 0) = true := beq_iff_eq.mpr c4
  have c4b1 : (t156 != 0) = false := bne_eq_false_iff_eq.mpr c4
  clear c4
  by_cases c5 : 0 ≤ (l1.length : Int)
  ·
   rw [if_pos c5] at H
   have c5b0 := eq_true c5
   have c5b1 : decide (0 ≤ (l1.length : Int)) = true := decide_eq_true c5
   clear c5
   by_cases c6 : ((l1.length : Int) : Int).toNat ≤ 281474976710656
   ·
    rw [if_pos c6] at H
    have c6b0 := eq_true c6
    have c6b1 : decide (((l1.length : Int) : Int).toNat ≤ 281474976710656) = true := decide_eq_true c6
    clear c6
    obtain ⟨y157, hy157⟩ : ∃ y_ : List Bool, y_ = (List.replicate ((l1.length : Int) : Int).toNat false) := ⟨_, rfl⟩
    replace H : (search_layers.l0 k l1 y157 l1 (l1.length : Int) 0 l0_0) = some r := by first | (rw [hy157]; with_reducible exact H) | (have H2_ := (Option.bind_some _ _).symm.trans H; rw [hy157]; with_reducible exact H2_) | (have H2_ := (Option.bind_some _ _).symm.trans H; with_reducible exact H2_) | with_reducible exact H | (rw [hy157]; exact H) | exact H
    have Ny157 := Aside0.mk hy157
    clear hy157
    have H' := Aside0.mk H
    clear H
    go_enter Try.func63, Try.ntmps63
    go_wp2_with (first | ((with_reducible refine gate_dst (N := 2) rfl ?_); refine box_event ?hg (N := 2) ?hd (cs := #[.slice A0_0 l0_0.length c0_0]) (t := 31) ?hr ?_; (case hd => rfl); (case hg => rfl); (case hr => first | (go_simp; done) | (go_simp; rfl)); intro gb155 hg w7 hbox hb; have n0_ := Aside0.mk (below_step (bs HB.out) hb); have n1_ := Aside0.mk (hbox); have n2_ := Aside0.mk ((by rw [hg]; exact (below_size (bs HB.out)) : w.heap.size ≤ gb155)); have n3_ := n2_; clear HB; have HB := n0_; have BK155 := n1_; have GW155 := n2_; have GE155 := n3_; clear n0_ n1_ n2_ n3_; clear hb hbox hg; have hcz8_0 : w7.cell? ⟨gb155, 0, none⟩ = some (.slice A0_0 l0_0.length c0_0) := (blk_cell BK155.out 0).trans rfl; have hfz8_0 := blk_frozen BK155.out 0) | ((with_reducible refine gate_callee (f := 20) rfl ?_); refine goesL_ (some 12) rfl rfl Try.func20 (by kernel_rfl) rfl #[.agg #[.slice A0_0 l0_0.length c0_0]] rfl (by (try simp only [List.map_toArray, List.map_cons, List.map_nil]); first | done | rfl | (simp only [List.length_drop, List.length_take]; rfl)) ?_; (with_reducible refine (trigauto_Check.calls k _ _ l0_0 t156 _ ?side1 ?side2 A3.out).mono ?_); (case side1 => repeat (first | exact (Kd.C_below HR0_0.out HB.out) | (with_reducible refine Kd.C_alloc ?_ _) | (with_reducible refine Kd.C_drewN ?_ _) | (with_reducible refine Kd.C_drew ?_))); (case side2 => exact HC0_0.out); rintro e w9 ⟨rfl, hb⟩; refine ⟨_, rfl, ?_⟩; have n0_ := Aside0.mk (blk_below (bg BK155.out) hb); have n1_ := Aside0.mk (below_step (bs HB.out) hb); clear BK155; clear HB; have BK155 := n0_; have HB := n1_; clear n0_ n1_; (try clear hb); (try clear hb2); (try clear hk); (try clear hi)) | ((with_reducible refine gate_dst (N := 16) rfl ?_); refine Kd.R_make Kd.bool _ 4 rfl (N := 16) rfl 86 _ _ rfl (l1.length : Int) rfl rfl Try.underlying86 (.bool false) 1 info4 rfl (by decide) (by omega) false (ok := fun _ => True) (okp := fun _ => True) rfl (fun _ hk => hk) trivial (of_decide_eq_true (by first | (with_reducible assumption) | assumption)) (Nat.le_trans (Nat.mul_le_mul_right _ (of_decide_eq_true (by first | (with_reducible assumption) | assumption) : (l1.length : Int).toNat ≤ 281474976710656)) (by omega)) (Below.refl _ _) (Nat.le_refl _) ?_; intro v158 w10 ho11 hb hg_ hnew_; clear hg_ hnew_; (first | rw [← Ny157.out] at ho11 | (simp only [Int.reduceToNat] at ho11; rw [← Ny157.out] at ho11)); have n0_ := Aside0.mk (Kd.R_lower (Kd.R_newM (M := fun k_ => (w.heap.size ≤ k_)) ho11 (below_size (bs HB.out)) (fun k_ h_ => h_)) (below_size (bs HB.out))); have n1_ := Aside0.mk (blk_below (bg BK155.out) hb); have n2_ := Aside0.mk (below_step (bs HB.out) hb); clear BK155; clear HB; have HO159 := n0_; have BK155 := n1_; have HB := n2_; clear n0_ n1_ n2_; clear hb ho11))
    go_loopg [19] k (fun kq v19 w' => ∃ (x5_1 : List Bool) (x19_1 : Int), v19 = .int .i64 x19_1 ∧ Aside0 (search_layers.l0 kq l1 x5_1 l1 (l1.length : Int) x19_1 l0_0 = some r) ∧ Aside0 (kq ≤ k) ∧ Aside0 (Kd.R Kd.bool 4 w' w.heap.size (fun k_ => (w.heap.size ≤ k_)) v158 x5_1) ∧ Aside0 (w'.heap[gb155]? = some (.cells #[(.slice A0_0 l0_0.length c0_0)] 31 (0, 0))) ∧ Aside0 (Below w.heap.size w w'))
    case atStart => exact ⟨(y157), (0), (by first | rfl | (simp; done) | (simp [*]; done)), H', ⟨Nat.le_refl _⟩, ⟨by (with_reducible repeat (first | apply Kd.R_alloc | apply Kd.R_drewN | apply Kd.R_drew)); exact Kd.R_mono HO159.out (fun _ hk => hk.1)⟩, ⟨bg BK155.out⟩, ⟨bs HB.out⟩⟩
    case round =>
     clear H'
     try clear c1
     try clear c2
     try clear p2
     try clear c4
     try clear c4b0
     try clear c4b1
     try clear c5
     try clear c5b0
     try clear c5b1
     try clear c6
     try clear c6b0
     try clear c6b1
     try clear hcz8_0
     try clear hfz8_0
     obtain ⟨x5_1, x19_1, rfl, HA, HK1, HO_5, BK155, HB⟩ := hrel
     cases gk with
     | zero => exact absurd HA.out (by simp [search_layers.l0])
     | succ k1 =>
      have H := HA.out
      clear HA
      simp only [search_layers.l0] at H
      by_cases c12 : x19_1 < (l1.length : Int)
      ·
       rw [if_pos c12] at H
       have c12b0 : decide (x19_1 < (l1.length : Int)) = true := decide_eq_true c12
       clear c12
       by_cases c13 : 0 ≤ x19_1
       ·
        rw [if_pos c13] at H
        have c13b0 : decide (0 ≤ x19_1) = true := decide_eq_true c13
        clear c13
        by_cases c14 : x19_1 < (l1.length : Int)
        ·
         rw [if_pos c14] at H
         have c14b0 : decide (x19_1 < (l1.length : Int)) = true := decide_eq_true c14
         clear c14
         by_cases c15 : 0 < (l0_0.length : Int)
         ·
          rw [if_pos c15] at H
          have c15b0 : decide (0 < (l0_0.length : Int)) = true := decide_eq_true c15
          have c15b1 : decide (0 < l0_0.length) = true := decide_eq_true (by omega)
          clear c15
          replace H := Option.bind_eq_some_iff.mp H
          obtain ⟨t163, A160, H⟩ := H
          replace H : (if x19_1 < (x5_1.length : Int) then (search_layers.l0 k1 l1 (x5_1.set (x19_1 : Int).toNat t163) l1 (l1.length : Int) (wrap64 (x19_1 + 1)) l0_0) else (none)) = some r := H
          have A16 := Aside0.mk A160
          clear A160
          by_cases c17 : x19_1 < (x5_1.length : Int)
          ·
           rw [if_pos c17] at H
           have c17b0 : decide (x19_1 < (x5_1.length : Int)) = true := decide_eq_true c17
           clear c17
           obtain ⟨y164, hy164⟩ : ∃ y_ : List Bool, y_ = (x5_1.set (x19_1 : Int).toNat t163) := ⟨_, rfl⟩
           replace H : (search_layers.l0 k1 l1 y164 l1 (l1.length : Int) (wrap64 (x19_1 + 1)) l0_0) = some r := by first | (rw [hy164]; with_reducible exact H) | (have H2_ := (Option.bind_some _ _).symm.trans H; rw [hy164]; with_reducible exact H2_) | (have H2_ := (Option.bind_some _ _).symm.trans H; with_reducible exact H2_) | with_reducible exact H | (rw [hy164]; exact H) | exact H
           have Ny164 := Aside0.mk hy164
           clear hy164
           have H' := Aside0.mk H
           clear H
           have p160 : 0 ≤ (x19_1 : Int) := of_decide_eq_true (by first | (with_reducible assumption) | assumption)
           have q160 : x19_1 < (l1.length : Int) := of_decide_eq_true (by first | (with_reducible assumption) | assumption)
           obtain ⟨ad160, e160, hx160_0, hx160_1, hx160_2, hx160_3, hx160_4, hx160_5, hx160_6, hx160_7, hx160_8⟩ := at_T46 HR1.out x19_1 p160 q160
           cases e160
           replace hx160_0 := pw_cell_below HB.out hx160_0
           replace hx160_1 := pw_cell_below HB.out hx160_1
           replace hx160_2 := pw_cell_below HB.out hx160_2
           replace hx160_3 := pw_cell_below HB.out hx160_3
           replace hx160_4 := pw_cell_below HB.out hx160_4
           replace hx160_5 := pw_cell_below HB.out hx160_5
           replace hx160_6 := pw_cell_below HB.out hx160_6
           replace hx160_7 := pw_cell_below HB.out hx160_7
           replace hx160_8 := pw_cell_below HB.out hx160_8
           replace p160 := eq_true p160
           replace q160 := eq_true q160
           try go_wp2_with (first | ((with_reducible refine gate_dst (N := 7) rfl ?_); refine box_event ?hg (N := 7) ?hd (cs := #[.int .i64 0, .int .i64 0, .int .i64 0, .int .i64 0, .int .i64 0, .int .i64 0, .int .i64 0, .string (⟨#[]⟩ : ByteArray), .int .i64 0]) (t := 46) ?hr ?_; (case hd => rfl); (case hg => rfl); (case hr => first | (go_simp; done) | (go_simp; rfl)); intro gb161 hg w19 hbox hb; have n0_ := Aside0.mk (Kd.R_below (rq HO_5.out) hb); have n1_ := Aside0.mk (blk_below (bg BK155.out) hb); have n2_ := Aside0.mk (below_step (bs HB.out) hb); have n3_ := Aside0.mk (hbox); have n4_ := Aside0.mk ((by rw [hg]; exact (below_size (bs HB.out)) : w.heap.size ≤ gb161)); have n5_ := n4_; have n6_ := Aside0.mk ((by rw [hg]; exact Nat.ne_of_lt (blk_lt (bg BK155.out)) : gb155 ≠ gb161)); have n7_ := Aside0.mk ((by rw [hg]; exact Nat.ne_of_gt (blk_lt (bg BK155.out)) : gb161 ≠ gb155)); clear HO_5; clear BK155; clear HB; have HO_5 := n0_; have BK155 := n1_; have HB := n2_; have BK161 := n3_; have GW161 := n4_; have GE161 := n5_; have NB155_161 := n6_; have NB161_155 := n7_; clear n0_ n1_ n2_ n3_ n4_ n5_ n6_ n7_; clear hb hbox hg; have hnb20 := NB161_155.out; have hnc20 := NB155_161.out; obtain ⟨hcz21_0, hcz21_1, hcz21_2, hcz21_3, hcz21_4, hcz21_5, hcz21_6, hcz21_7, hcz21_8⟩ := bc9 BK161.out; obtain ⟨hfz21_0, hfz21_1, hfz21_2, hfz21_3, hfz21_4, hfz21_5, hfz21_6, hfz21_7, hfz21_8⟩ := bf9 BK161.out))
           have n0_ : Aside0 (Kd.R Kd.bool 4 (((((((((w19.setCell ⟨gb161, 0, none⟩ (.int .i64 ((rd_T46 l1 x19_1).f0))).setCell ⟨gb161, 1, none⟩ (.int .i64 ((rd_T46 l1 x19_1).f1))).setCell ⟨gb161, 2, none⟩ (.int .i64 ((rd_T46 l1 x19_1).f2.f0))).setCell ⟨gb161, 3, none⟩ (.int .i64 ((rd_T46 l1 x19_1).f2.f1))).setCell ⟨gb161, 4, none⟩ (.int .i64 ((rd_T46 l1 x19_1).f2.f2))).setCell ⟨gb161, 5, none⟩ (.int .i64 ((rd_T46 l1 x19_1).f2.f3))).setCell ⟨gb161, 6, none⟩ (.int .i64 ((rd_T46 l1 x19_1).f2.f4))).setCell ⟨gb161, 7, none⟩ (.string ((rd_T46 l1 x19_1).f2.f5))).setCell ⟨gb161, 8, none⟩ (.int .i64 ((rd_T46 l1 x19_1).f2.f6))) w.heap.size (fun k_ => (w.heap.size ≤ k_)) v158 x5_1) := ⟨by (with_reducible repeat (first | apply Kd.R_alloc | apply Kd.R_drewN | apply Kd.R_drew)); exact Kd.R_mono (Kd.R_far (p := ⟨gb161, 8, none⟩) (Kd.R_far (p := ⟨gb161, 7, none⟩) (Kd.R_far (p := ⟨gb161, 6, none⟩) (Kd.R_far (p := ⟨gb161, 5, none⟩) (Kd.R_far (p := ⟨gb161, 4, none⟩) (Kd.R_far (p := ⟨gb161, 3, none⟩) (Kd.R_far (p := ⟨gb161, 2, none⟩) (Kd.R_far (p := ⟨gb161, 1, none⟩) (Kd.R_far (p := ⟨gb161, 0, none⟩) (Kd.R_types HO_5.out BK161.out (by decide)) (fun _ hk => hk.2) (.int .i64 ((rd_T46 l1 x19_1).f0))) (fun _ hk => hk.2) (.int .i64 ((rd_T46 l1 x19_1).f1))) (fun _ hk => hk.2) (.int .i64 ((rd_T46 l1 x19_1).f2.f0))) (fun _ hk => hk.2) (.int .i64 ((rd_T46 l1 x19_1).f2.f1))) (fun _ hk => hk.2) (.int .i64 ((rd_T46 l1 x19_1).f2.f2))) (fun _ hk => hk.2) (.int .i64 ((rd_T46 l1 x19_1).f2.f3))) (fun _ hk => hk.2) (.int .i64 ((rd_T46 l1 x19_1).f2.f4))) (fun _ hk => hk.2) (.string ((rd_T46 l1 x19_1).f2.f5))) (fun _ hk => hk.2) (.int .i64 ((rd_T46 l1 x19_1).f2.f6))) (fun _ hk => hk.1)⟩
           have n1_ : Aside0 ((((((((((w19.setCell ⟨gb161, 0, none⟩ (.int .i64 ((rd_T46 l1 x19_1).f0))).setCell ⟨gb161, 1, none⟩ (.int .i64 ((rd_T46 l1 x19_1).f1))).setCell ⟨gb161, 2, none⟩ (.int .i64 ((rd_T46 l1 x19_1).f2.f0))).setCell ⟨gb161, 3, none⟩ (.int .i64 ((rd_T46 l1 x19_1).f2.f1))).setCell ⟨gb161, 4, none⟩ (.int .i64 ((rd_T46 l1 x19_1).f2.f2))).setCell ⟨gb161, 5, none⟩ (.int .i64 ((rd_T46 l1 x19_1).f2.f3))).setCell ⟨gb161, 6, none⟩ (.int .i64 ((rd_T46 l1 x19_1).f2.f4))).setCell ⟨gb161, 7, none⟩ (.string ((rd_T46 l1 x19_1).f2.f5))).setCell ⟨gb161, 8, none⟩ (.int .i64 ((rd_T46 l1 x19_1).f2.f6))).heap[gb155]? = some (.cells #[.slice A0_0 l0_0.length c0_0] 31 (0, 0))) := ⟨by (iterate 9 (with_reducible repeat (first | refine blk_drewN ?_ _ | refine blk_drew ?_ | refine blk_alloc ?_ _)); refine blk_far ?_ NB155_161.out _); exact bg BK155.out⟩
           have n2_ : Aside0 ((((((((((w19.setCell ⟨gb161, 0, none⟩ (.int .i64 ((rd_T46 l1 x19_1).f0))).setCell ⟨gb161, 1, none⟩ (.int .i64 ((rd_T46 l1 x19_1).f1))).setCell ⟨gb161, 2, none⟩ (.int .i64 ((rd_T46 l1 x19_1).f2.f0))).setCell ⟨gb161, 3, none⟩ (.int .i64 ((rd_T46 l1 x19_1).f2.f1))).setCell ⟨gb161, 4, none⟩ (.int .i64 ((rd_T46 l1 x19_1).f2.f2))).setCell ⟨gb161, 5, none⟩ (.int .i64 ((rd_T46 l1 x19_1).f2.f3))).setCell ⟨gb161, 6, none⟩ (.int .i64 ((rd_T46 l1 x19_1).f2.f4))).setCell ⟨gb161, 7, none⟩ (.string ((rd_T46 l1 x19_1).f2.f5))).setCell ⟨gb161, 8, none⟩ (.int .i64 ((rd_T46 l1 x19_1).f2.f6))).heap[gb161]? = some (.cells #[.int .i64 ((rd_T46 l1 x19_1).f0), .int .i64 ((rd_T46 l1 x19_1).f1), .int .i64 ((rd_T46 l1 x19_1).f2.f0), .int .i64 ((rd_T46 l1 x19_1).f2.f1), .int .i64 ((rd_T46 l1 x19_1).f2.f2), .int .i64 ((rd_T46 l1 x19_1).f2.f3), .int .i64 ((rd_T46 l1 x19_1).f2.f4), .string ((rd_T46 l1 x19_1).f2.f5), .int .i64 ((rd_T46 l1 x19_1).f2.f6)] 46 (0, 0))) := ⟨by exact pt9 (bg BK161.out)⟩
           have n3_ : Aside0 (Below w.heap.size w (((((((((w19.setCell ⟨gb161, 0, none⟩ (.int .i64 ((rd_T46 l1 x19_1).f0))).setCell ⟨gb161, 1, none⟩ (.int .i64 ((rd_T46 l1 x19_1).f1))).setCell ⟨gb161, 2, none⟩ (.int .i64 ((rd_T46 l1 x19_1).f2.f0))).setCell ⟨gb161, 3, none⟩ (.int .i64 ((rd_T46 l1 x19_1).f2.f1))).setCell ⟨gb161, 4, none⟩ (.int .i64 ((rd_T46 l1 x19_1).f2.f2))).setCell ⟨gb161, 5, none⟩ (.int .i64 ((rd_T46 l1 x19_1).f2.f3))).setCell ⟨gb161, 6, none⟩ (.int .i64 ((rd_T46 l1 x19_1).f2.f4))).setCell ⟨gb161, 7, none⟩ (.string ((rd_T46 l1 x19_1).f2.f5))).setCell ⟨gb161, 8, none⟩ (.int .i64 ((rd_T46 l1 x19_1).f2.f6)))) := ⟨bs HB.out⟩
           (try clear HO_5)
           (try clear BK155)
           (try clear BK161)
           (try clear HB)
           generalize (((((((((w19.setCell ⟨gb161, 0, none⟩ (.int .i64 ((rd_T46 l1 x19_1).f0))).setCell ⟨gb161, 1, none⟩ (.int .i64 ((rd_T46 l1 x19_1).f1))).setCell ⟨gb161, 2, none⟩ (.int .i64 ((rd_T46 l1 x19_1).f2.f0))).setCell ⟨gb161, 3, none⟩ (.int .i64 ((rd_T46 l1 x19_1).f2.f1))).setCell ⟨gb161, 4, none⟩ (.int .i64 ((rd_T46 l1 x19_1).f2.f2))).setCell ⟨gb161, 5, none⟩ (.int .i64 ((rd_T46 l1 x19_1).f2.f3))).setCell ⟨gb161, 6, none⟩ (.int .i64 ((rd_T46 l1 x19_1).f2.f4))).setCell ⟨gb161, 7, none⟩ (.string ((rd_T46 l1 x19_1).f2.f5))).setCell ⟨gb161, 8, none⟩ (.int .i64 ((rd_T46 l1 x19_1).f2.f6))) = w22 at n0_ n1_ n2_ n3_ ⊢
           have HO_5 := n0_
           have BK155 := n1_
           have BK161 := n2_
           have HB := n3_
           clear n0_ n1_ n2_ n3_
           have n0_ := Aside0.mk (Kd.R_drew HO_5.out)
           have n1_ := Aside0.mk (blk_drew BK155.out)
           have n2_ := Aside0.mk (blk_drew BK161.out)
           have n3_ := Aside0.mk (below_drew1 HB.out)
           clear HO_5
           clear BK155
           clear BK161
           clear HB
           have HO_5 := n0_
           have BK155 := n1_
           have BK161 := n2_
           have HB := n3_
           clear n0_ n1_ n2_ n3_
           have p162 : 0 ≤ (0 : Int) := (by omega)
           have q162 : 0 < (l0_0.length : Int) := of_decide_eq_true (by first | (with_reducible assumption) | assumption)
           obtain ⟨ad162, e162, hx162_0, hx162_1, hx162_2, hx162_3, hx162_4, hx162_5, hx162_6, hx162_7, hx162_8, hx162_9, hx162_10, hx162_11⟩ := at_T50 HR0_0.out 0 p162 q162
           have hw162_11 := hx162_11
           (try rw [show ((0 : Int)).toNat = 0 from rfl] at hw162_11)
           (try rw [show 0 * 12 = 0 from rfl] at hw162_11)
           (try rw [Addr.add_zero'] at hw162_11)
           have hw162_10 := hx162_10
           (try rw [show ((0 : Int)).toNat = 0 from rfl] at hw162_10)
           (try rw [show 0 * 12 = 0 from rfl] at hw162_10)
           (try rw [Addr.add_zero'] at hw162_10)
           have hw162_9 := hx162_9
           (try rw [show ((0 : Int)).toNat = 0 from rfl] at hw162_9)
           (try rw [show 0 * 12 = 0 from rfl] at hw162_9)
           (try rw [Addr.add_zero'] at hw162_9)
           have hw162_8 := hx162_8
           (try rw [show ((0 : Int)).toNat = 0 from rfl] at hw162_8)
           (try rw [show 0 * 12 = 0 from rfl] at hw162_8)
           (try rw [Addr.add_zero'] at hw162_8)
           have hw162_7 := hx162_7
           (try rw [show ((0 : Int)).toNat = 0 from rfl] at hw162_7)
           (try rw [show 0 * 12 = 0 from rfl] at hw162_7)
           (try rw [Addr.add_zero'] at hw162_7)
           have hw162_6 := hx162_6
           (try rw [show ((0 : Int)).toNat = 0 from rfl] at hw162_6)
           (try rw [show 0 * 12 = 0 from rfl] at hw162_6)
           (try rw [Addr.add_zero'] at hw162_6)
           have hw162_5 := hx162_5
           (try rw [show ((0 : Int)).toNat = 0 from rfl] at hw162_5)
           (try rw [show 0 * 12 = 0 from rfl] at hw162_5)
           (try rw [Addr.add_zero'] at hw162_5)
           have hw162_4 := hx162_4
           (try rw [show ((0 : Int)).toNat = 0 from rfl] at hw162_4)
           (try rw [show 0 * 12 = 0 from rfl] at hw162_4)
           (try rw [Addr.add_zero'] at hw162_4)
           have hw162_3 := hx162_3
           (try rw [show ((0 : Int)).toNat = 0 from rfl] at hw162_3)
           (try rw [show 0 * 12 = 0 from rfl] at hw162_3)
           (try rw [Addr.add_zero'] at hw162_3)
           have hw162_2 := hx162_2
           (try rw [show ((0 : Int)).toNat = 0 from rfl] at hw162_2)
           (try rw [show 0 * 12 = 0 from rfl] at hw162_2)
           (try rw [Addr.add_zero'] at hw162_2)
           have hw162_1 := hx162_1
           (try rw [show ((0 : Int)).toNat = 0 from rfl] at hw162_1)
           (try rw [show 0 * 12 = 0 from rfl] at hw162_1)
           (try rw [Addr.add_zero'] at hw162_1)
           have hw162_0 := hx162_0
           (try rw [show ((0 : Int)).toNat = 0 from rfl] at hw162_0)
           (try rw [show 0 * 12 = 0 from rfl] at hw162_0)
           (try rw [Addr.add_zero'] at hw162_0)
           cases e162
           have qi162 : (0 < l0_0.length) = True := eq_true (by omega)
           (try rw [show ((0 : Int)).toNat = 0 from rfl] at hx162_0)
           (try rw [show 0 * 12 = 0 from rfl] at hx162_0)
           (try rw [Addr.add_zero'] at hx162_0)
           (try rw [show ((0 : Int)).toNat = 0 from rfl] at hx162_1)
           (try rw [show 0 * 12 = 0 from rfl] at hx162_1)
           (try rw [Addr.add_zero'] at hx162_1)
           (try rw [show ((0 : Int)).toNat = 0 from rfl] at hx162_2)
           (try rw [show 0 * 12 = 0 from rfl] at hx162_2)
           (try rw [Addr.add_zero'] at hx162_2)
           (try rw [show ((0 : Int)).toNat = 0 from rfl] at hx162_3)
           (try rw [show 0 * 12 = 0 from rfl] at hx162_3)
           (try rw [Addr.add_zero'] at hx162_3)
           (try rw [show ((0 : Int)).toNat = 0 from rfl] at hx162_4)
           (try rw [show 0 * 12 = 0 from rfl] at hx162_4)
           (try rw [Addr.add_zero'] at hx162_4)
           (try rw [show ((0 : Int)).toNat = 0 from rfl] at hx162_5)
           (try rw [show 0 * 12 = 0 from rfl] at hx162_5)
           (try rw [Addr.add_zero'] at hx162_5)
           (try rw [show ((0 : Int)).toNat = 0 from rfl] at hx162_6)
           (try rw [show 0 * 12 = 0 from rfl] at hx162_6)
           (try rw [Addr.add_zero'] at hx162_6)
           (try rw [show ((0 : Int)).toNat = 0 from rfl] at hx162_7)
           (try rw [show 0 * 12 = 0 from rfl] at hx162_7)
           (try rw [Addr.add_zero'] at hx162_7)
           (try rw [show ((0 : Int)).toNat = 0 from rfl] at hx162_8)
           (try rw [show 0 * 12 = 0 from rfl] at hx162_8)
           (try rw [Addr.add_zero'] at hx162_8)
           (try rw [show ((0 : Int)).toNat = 0 from rfl] at hx162_9)
           (try rw [show 0 * 12 = 0 from rfl] at hx162_9)
           (try rw [Addr.add_zero'] at hx162_9)
           (try rw [show ((0 : Int)).toNat = 0 from rfl] at hx162_10)
           (try rw [show 0 * 12 = 0 from rfl] at hx162_10)
           (try rw [Addr.add_zero'] at hx162_10)
           (try rw [show ((0 : Int)).toNat = 0 from rfl] at hx162_11)
           (try rw [show 0 * 12 = 0 from rfl] at hx162_11)
           (try rw [Addr.add_zero'] at hx162_11)
           replace hx162_0 := pw_cell_below HB.out hx162_0
           replace hx162_1 := pw_cell_below HB.out hx162_1
           replace hx162_2 := pw_cell_below HB.out hx162_2
           replace hx162_3 := pw_cell_below HB.out hx162_3
           replace hx162_4 := pw_cell_below HB.out hx162_4
           replace hx162_5 := pw_cell_below HB.out hx162_5
           replace hx162_6 := pw_cell_below HB.out hx162_6
           replace hx162_7 := pw_cell_below HB.out hx162_7
           replace hx162_8 := pw_cell_below HB.out hx162_8
           replace hx162_9 := pw_cell_below HB.out hx162_9
           replace hx162_10 := pw_cell_below HB.out hx162_10
           replace hx162_11 := pw_cell_below HB.out hx162_11
           replace p162 := eq_true p162
           replace q162 := eq_true q162
           refine start_ (n := 11) (S := fun w' => w'.cell? ⟨gb155, 0, none⟩ = some (.slice (some ad162) l0_0.length c0_0) ∧ w'.cell? ⟨gb161, 0, none⟩ = some (.int .i64 ((rd_T46 l1 x19_1).f0)) ∧ w'.cell? ⟨gb161, 1, none⟩ = some (.int .i64 ((rd_T46 l1 x19_1).f1)) ∧ w'.cell? ⟨gb161, 2, none⟩ = some (.int .i64 ((rd_T46 l1 x19_1).f2.f0)) ∧ w'.cell? ⟨gb161, 3, none⟩ = some (.int .i64 ((rd_T46 l1 x19_1).f2.f1)) ∧ w'.cell? ⟨gb161, 4, none⟩ = some (.int .i64 ((rd_T46 l1 x19_1).f2.f2)) ∧ w'.cell? ⟨gb161, 5, none⟩ = some (.int .i64 ((rd_T46 l1 x19_1).f2.f3)) ∧ w'.cell? ⟨gb161, 6, none⟩ = some (.int .i64 ((rd_T46 l1 x19_1).f2.f4)) ∧ w'.cell? ⟨gb161, 7, none⟩ = some (.string ((rd_T46 l1 x19_1).f2.f5)) ∧ w'.cell? ⟨gb161, 8, none⟩ = some (.int .i64 ((rd_T46 l1 x19_1).f2.f6)) ∧ w'.cell? ad162 = some (.int .i64 ((rd_T50 l0_0 0).f0.f0)) ∧ w'.cell? ⟨ad162.block, ad162.off + 1, none⟩ = some (.int .i64 ((rd_T50 l0_0 0).f0.f1)) ∧ w'.cell? ⟨ad162.block, ad162.off + 2, none⟩ = some (.int .i64 ((rd_T50 l0_0 0).f0.f2)) ∧ w'.cell? ⟨ad162.block, ad162.off + 3, none⟩ = some (.int .i64 ((rd_T50 l0_0 0).f0.f3)) ∧ w'.cell? ⟨ad162.block, ad162.off + 4, none⟩ = some (.int .i64 ((rd_T50 l0_0 0).f0.f4)) ∧ w'.cell? ⟨ad162.block, ad162.off + 5, none⟩ = some (.int .i64 ((rd_T50 l0_0 0).f1)) ∧ w'.cell? ⟨ad162.block, ad162.off + 6, none⟩ = some (.bool ((rd_T50 l0_0 0).f2)) ∧ w'.cell? ⟨ad162.block, ad162.off + 7, none⟩ = some (.int .i64 ((rd_T50 l0_0 0).f3.f0)) ∧ w'.cell? ⟨ad162.block, ad162.off + 8, none⟩ = some (.int .i64 ((rd_T50 l0_0 0).f3.f1)) ∧ w'.cell? ⟨ad162.block, ad162.off + 9, none⟩ = some (.int .i64 ((rd_T50 l0_0 0).f3.f2)) ∧ w'.cell? ⟨ad162.block, ad162.off + 10, none⟩ = some (.int .i64 ((rd_T50 l0_0 0).f3.f3)) ∧ w'.cell? ⟨ad162.block, ad162.off + 11, none⟩ = some (.int .i64 ((rd_T50 l0_0 0).f3.f4))) (ds := [10]) (bsq 0 11) (by kernel_rfl) rfl rfl ⟨(blk_cell BK155.out 0).trans rfl, (blk_cell BK161.out 0).trans rfl, (blk_cell BK161.out 1).trans rfl, (blk_cell BK161.out 2).trans rfl, (blk_cell BK161.out 3).trans rfl, (blk_cell BK161.out 4).trans rfl, (blk_cell BK161.out 5).trans rfl, (blk_cell BK161.out 6).trans rfl, (blk_cell BK161.out 7).trans rfl, (blk_cell BK161.out 8).trans rfl, ((HB.out.cell (World.block_lt_of_cell? w _ hw162_0)).trans hw162_0), ((HB.out.cell (World.block_lt_of_cell? w _ hw162_1)).trans hw162_1), ((HB.out.cell (World.block_lt_of_cell? w _ hw162_2)).trans hw162_2), ((HB.out.cell (World.block_lt_of_cell? w _ hw162_3)).trans hw162_3), ((HB.out.cell (World.block_lt_of_cell? w _ hw162_4)).trans hw162_4), ((HB.out.cell (World.block_lt_of_cell? w _ hw162_5)).trans hw162_5), ((HB.out.cell (World.block_lt_of_cell? w _ hw162_6)).trans hw162_6), ((HB.out.cell (World.block_lt_of_cell? w _ hw162_7)).trans hw162_7), ((HB.out.cell (World.block_lt_of_cell? w _ hw162_8)).trans hw162_8), ((HB.out.cell (World.block_lt_of_cell? w _ hw162_9)).trans hw162_9), ((HB.out.cell (World.block_lt_of_cell? w _ hw162_10)).trans hw162_10), ((HB.out.cell (World.block_lt_of_cell? w _ hw162_11)).trans hw162_11)⟩ (fun hHeld => ?_); refine with_tabW search_layers.tab7 search_layers.bits7 (fun HT_ HW_ => ?_)
           generalize w22.drew = w23 at HO_5 BK155 BK161 HB hx162_0 hx162_1 hx162_10 hx162_11 hx162_2 hx162_3 hx162_4 hx162_5 hx162_6 hx162_7 hx162_8 hx162_9 hHeld ⊢
           refine pu 0 24 (bsq 1 10) ?_
           refine pu 1 25 (bsq 2 9) ?_
           refine pu 2 26 (bsq 3 8) ?_
           refine tk 3 27 (bsq 4 7) hHeld ?_ (he := by rintro w' ⟨s0, s1, s2, s3, s4, s5, s6, s7, s8, s9, s10, s11, s12, s13, s14, s15, s16, s17, s18, s19, s20, s21⟩; go_simp; with_reducible rfl)
           refine pu 4 28 (bsq 5 6) ?_
           refine pu 5 29 (bsq 6 5) ?_
           refine tk 6 30 (bsq 7 4) hHeld ?_ (he := by rintro w' ⟨s0, s1, s2, s3, s4, s5, s6, s7, s8, s9, s10, s11, s12, s13, s14, s15, s16, s17, s18, s19, s20, s21⟩; go_simp; with_reducible rfl)
           refine tk 7 31 (bsq 8 3) hHeld ?_ (he := by rintro w' ⟨s0, s1, s2, s3, s4, s5, s6, s7, s8, s9, s10, s11, s12, s13, s14, s15, s16, s17, s18, s19, s20, s21⟩; go_simp; with_reducible rfl)
           refine one_ (i := 8) (N := some 32) (bsq 9 2) rfl rfl (one_of HT_.out (by kernel_rfl)) (by decide) (fun K hK => ?_)
           refine goes_ Try.func57 (by kernel_rfl) rfl #[.agg #[.int .i64 ((rd_T50 l0_0 0).f0.f0), .int .i64 ((rd_T50 l0_0 0).f0.f1), .int .i64 ((rd_T50 l0_0 0).f0.f2), .int .i64 ((rd_T50 l0_0 0).f0.f3), .int .i64 ((rd_T50 l0_0 0).f0.f4)], .agg #[.int .i64 ((rd_T46 l1 x19_1).f0), .int .i64 ((rd_T46 l1 x19_1).f1), .int .i64 ((rd_T46 l1 x19_1).f2.f0), .int .i64 ((rd_T46 l1 x19_1).f2.f1), .int .i64 ((rd_T46 l1 x19_1).f2.f2), .int .i64 ((rd_T46 l1 x19_1).f2.f3), .int .i64 ((rd_T46 l1 x19_1).f2.f4), .string ((rd_T46 l1 x19_1).f2.f5), .int .i64 ((rd_T46 l1 x19_1).f2.f6)]] (by rfl) rfl rfl (by (try simp only [List.map_toArray, List.map_cons, List.map_nil]); first | done | rfl | (simp only [List.length_drop, List.length_take]; rfl)) ?_
           with_reducible refine (search_satisfies.calls k1 ((rd_T50 l0_0 0).f0.f0) ((rd_T50 l0_0 0).f0.f1) ((rd_T50 l0_0 0).f0.f2) ((rd_T50 l0_0 0).f0.f3) ((rd_T50 l0_0 0).f0.f4) ((rd_T46 l1 x19_1).f0) ((rd_T46 l1 x19_1).f1) ((rd_T46 l1 x19_1).f2.f0) ((rd_T46 l1 x19_1).f2.f1) ((rd_T46 l1 x19_1).f2.f2) ((rd_T46 l1 x19_1).f2.f3) ((rd_T46 l1 x19_1).f2.f4) ((rd_T46 l1 x19_1).f2.f5) ((rd_T46 l1 x19_1).f2.f6) t163 _ A16.out).mono ?_
           rintro e w24 ⟨rfl, hb⟩
           refine ⟨_, rfl, ?_⟩
           have n0_ := Aside0.mk (Kd.R_below (rq HO_5.out) hb)
           have n1_ := Aside0.mk (blk_below (bg BK155.out) hb)
           have n2_ := Aside0.mk (blk_below (bg BK161.out) hb)
           have n3_ := Aside0.mk (below_step (bs HB.out) hb)
           clear HO_5
           clear BK155
           clear BK161
           clear HB
           have HO_5 := n0_
           have BK155 := n1_
           have BK161 := n2_
           have HB := n3_
           clear n0_ n1_ n2_ n3_
           (try clear hb)
           (try clear hb2)
           (try clear hk)
           (try clear hi)
           have p18 : 0 ≤ (x19_1 : Int) := of_decide_eq_true (by first | (with_reducible assumption) | assumption)
           have q18 : (x19_1 : Int) < ((x5_1.length : Int) : Int) := of_decide_eq_true (by first | (with_reducible assumption) | assumption)
           obtain ⟨go18, co18, eo18, gb18, gl18, cl18, HG18⟩ := Kd.R_form HO_5.out (by omega)
           (first | cases eo18 | (injection eo18 with ea_ en_ ec_; (first | subst ea_ | (injection ea_ with ea_; subst ea_)); subst ec_; clear en_))
           have GB18 := Aside0.mk gb18
           have GG18 := Aside0.mk HG18
           clear gb18 gl18 HG18
           obtain ⟨hx18_0, hf18_0⟩ := Kd.R_celln false HO_5.out (x19_1 : Int) p18 q18
           replace p18 := eq_true p18
           replace q18 := eq_true q18
           have HP25 := Kd.R_putn HO_5.out (x19_1 : Int) t163
           rw [← Ny164.out] at HP25
           have HQ25 := Aside0.mk HP25
           clear HP25
           refine hK.out _ _ ⟨(blk_cell BK155.out 0).trans rfl, (blk_cell BK161.out 0).trans rfl, (blk_cell BK161.out 1).trans rfl, (blk_cell BK161.out 2).trans rfl, (blk_cell BK161.out 3).trans rfl, (blk_cell BK161.out 4).trans rfl, (blk_cell BK161.out 5).trans rfl, (blk_cell BK161.out 6).trans rfl, (blk_cell BK161.out 7).trans rfl, (blk_cell BK161.out 8).trans rfl, ((HB.out.cell (World.block_lt_of_cell? w _ hw162_0)).trans hw162_0), ((HB.out.cell (World.block_lt_of_cell? w _ hw162_1)).trans hw162_1), ((HB.out.cell (World.block_lt_of_cell? w _ hw162_2)).trans hw162_2), ((HB.out.cell (World.block_lt_of_cell? w _ hw162_3)).trans hw162_3), ((HB.out.cell (World.block_lt_of_cell? w _ hw162_4)).trans hw162_4), ((HB.out.cell (World.block_lt_of_cell? w _ hw162_5)).trans hw162_5), ((HB.out.cell (World.block_lt_of_cell? w _ hw162_6)).trans hw162_6), ((HB.out.cell (World.block_lt_of_cell? w _ hw162_7)).trans hw162_7), ((HB.out.cell (World.block_lt_of_cell? w _ hw162_8)).trans hw162_8), ((HB.out.cell (World.block_lt_of_cell? w _ hw162_9)).trans hw162_9), ((HB.out.cell (World.block_lt_of_cell? w _ hw162_10)).trans hw162_10), ((HB.out.cell (World.block_lt_of_cell? w _ hw162_11)).trans hw162_11)⟩ (fun hHeld => ?_)
           clear hK K
           refine norm_ (a' := ?_) ?_ ?_
           rotate_left
           ·
            show Act.put _ (some 32) _ = _
            simp only [Act.put, List.setIfInBounds_toArray, List.set_cons_zero, List.set_cons_succ, i64_w, i32_w]
            rfl
           refine pu 9 33 (bsq 10 1) ?_
           refine last_ (i := 10) (N := none) (bsq 11 0) rfl rfl (one_of HT_.out (by kernel_rfl)) (by decide) (fun K hK => ?_)
           refine skip_ (w1 := ?_) (by rfl) rfl ?_ ?_
           rotate_left
           ·
            go_simp
            rfl
           refine hK.out _ _ ?_
           clear hK K
           refine done_ (done_of HT_.out (by kernel_rfl)) ?_
           try go_wp2
           go_roundg k1
           case measure => have := HK1.out; omega
           case rel => exact ⟨(y164), (wrap64 (x19_1 + 1)), (by first | rfl | (simp; done) | (simp [*]; done)), H', ⟨by have := HK1.out; omega⟩, ⟨by (with_reducible repeat (first | apply Kd.R_alloc | apply Kd.R_drewN | apply Kd.R_drew)); exact HQ25.out⟩, ⟨by (with_reducible repeat (first | refine blk_drewN ?_ _ | refine blk_drew ?_ | refine blk_alloc ?_ _)); refine blk_far ?_ (by have h_ := Kd.R_ne HO_5.out BK155.out (by decide); intro e_; exact h_ (by rw [e_]; rfl)) _; exact bg BK155.out⟩, ⟨by repeat (first | (with_reducible first | exact HB.out | apply below_alloc | apply pw_below_drewN | apply below_drew1 | refine below_set ?_ GB18.out | refine below_set ?_ GE155.out | refine below_set ?_ GE161.out) | exact HB.out)⟩⟩
          ·
           rw [if_neg c17] at H
           exact absurd H (by simp)
         ·
          rw [if_neg c15] at H
          exact absurd H (by simp)
        ·
         rw [if_neg c14] at H
         exact absurd H (by simp)
       ·
        rw [if_neg c13] at H
        exact absurd H (by simp)
      ·
       rw [if_neg c12] at H
       have c12b0 : decide (x19_1 < (l1.length : Int)) = false := decide_eq_false c12
       clear c12
       obtain ⟨y165, hy165⟩ : ∃ y_ : List (List Bool), y_ = (([x5_1] : List (List Bool))) := ⟨_, rfl⟩
       replace H : (if 1 ≤ (l0_0.length : Int) then ((some (l0_0.drop 1 : List (S50))).bind fun y168 => (search_layers.l1 k1 l1 y165 y168 (y168.length : Int) 0)) else (none)) = some r := by first | (rw [hy165]; with_reducible exact H) | (have H2_ := (Option.bind_some _ _).symm.trans H; rw [hy165]; with_reducible exact H2_) | (have H2_ := (Option.bind_some _ _).symm.trans H; with_reducible exact H2_) | with_reducible exact H | (rw [hy165]; exact H) | exact H
       have Ny165 := Aside0.mk hy165
       clear hy165
       by_cases c26 : 1 ≤ (l0_0.length : Int)
       ·
        rw [if_pos c26] at H
        have c26b0 := eq_true c26
        have c26b1 : decide (1 ≤ (l0_0.length : Int)) = true := decide_eq_true c26
        clear c26
        obtain ⟨y168, hy168⟩ : ∃ y_ : List (S50), y_ = (l0_0.drop 1) := ⟨_, rfl⟩
        replace H : (search_layers.l1 k1 l1 y165 y168 (y168.length : Int) 0) = some r := by first | (rw [hy168]; with_reducible exact H) | (have H2_ := (Option.bind_some _ _).symm.trans H; rw [hy168]; with_reducible exact H2_) | (have H2_ := (Option.bind_some _ _).symm.trans H; with_reducible exact H2_) | with_reducible exact H | (rw [hy168]; exact H) | exact H
        have Ny168 := Aside0.mk hy168
        clear hy168
        have H' := Aside0.mk H
        clear H
        obtain ⟨Ao27, co27, eo27⟩ := Kd.R_slice HO_5.out
        subst eo27
        go_wp2_with (first | ((with_reducible refine gate_dst (N := 36) rfl ?_); refine Kd.N_lit (Kd.slice 4 Kd.bool) _ 86 ?hg (N' := 36) ?hd (xs := ([x5_1] : List (List Bool))) (inner := [.slice Ao27 x5_1.length co27]) (ok := (fun k_ => (w.heap.size ≤ k_) ∧ k_ ≠ gb155)) (okp := (fun k_ => (w.heap.size ≤ k_) ∧ k_ ≠ gb155)) ?hr ?hp (fun _ hk => hk) ((show ∀ k_, wr.heap.size ≤ k_ → (fun k_ => (w.heap.size ≤ k_) ∧ k_ ≠ gb155) k_ from fun k_ hk => ⟨(Nat.le_trans (below_size (bs HB.out)) hk), Kd.freshB (g := gb155) (o := .cells #[.slice A0_0 l0_0.length c0_0] 31 (0, 0)) (bg BK155.out) k_ hk⟩) _ (Nat.le_refl _)) (Below.refl _ _) (Nat.le_refl _) (by simp) ?_; (case hd => rfl); (case hg => rfl); (case hr => first | (go_simp; done) | (go_simp; rfl)); (case hp => exact (Reps.one (show Kd.FK (Kd.slice 4 Kd.bool) _ _ x5_1 [.slice Ao27 x5_1.length co27] from (Kd.FK_slice_mk (Kd.R_reads' (Kd.R_mono (ok' := (fun k_ => (w.heap.size ≤ k_) ∧ k_ ≠ gb155)) (Kd.R_types (HO_5.out) BK155.out (by decide)) (fun k_ hk => ⟨hk.1, hk.2⟩))).2.1 (Kd.R_F (Kd.R_mono (ok' := (fun k_ => (w.heap.size ≤ k_) ∧ k_ ≠ gb155)) (Kd.R_types (HO_5.out) BK155.out (by decide)) (fun k_ hk => ⟨hk.1, hk.2⟩))))) (Reps.none _ _))); intro v166 w28 ho29 hb hg_ hnew_; clear hg_ hnew_; (first | rw [← Ny165.out] at ho29 | (simp only [Int.reduceToNat] at ho29; rw [← Ny165.out] at ho29)); have n0_ := Aside0.mk (Kd.N_lower ho29 (below_size (bs HB.out))); have n1_ := Aside0.mk (blk_below (bg BK155.out) hb); have n2_ := Aside0.mk (below_step (bs HB.out) hb); clear BK155; clear HB; clear HO_5; have HO167 := n0_; have BK155 := n1_; have HB := n2_; clear n0_ n1_ n2_; clear hb ho29; have hcz30_0 : w28.cell? ⟨gb155, 0, none⟩ = some (.slice A0_0 l0_0.length c0_0) := (blk_cell BK155.out 0).trans rfl; have hfz30_0 := blk_frozen BK155.out 0; have q31 : (1 : Int) ≤ ((l0_0.length : Int) : Int) := of_decide_eq_true (by first | (with_reducible assumption) | assumption); obtain ⟨i031, hi031, _, hsz31, _⟩ := info_parts info50; have hroom31 : l0_0.length ≤ c0_0 := HC0_0.out; have hC31 : Kd.C k50 _ A0_0 l0_0.length l0_0 := HR0_0.out; have hcut31 := cut_from (P := Try.prog) 29 50 .i64 Try.underlying29 hi031 12 hsz31 A0_0 l0_0.length c0_0 1 (by omega) q31; have hr31 := Kd.C_drop (m := (1 : Int).toNat) (c := c0_0) hC31 (by omega) hroom31; obtain ⟨A31, hA31⟩ : ∃ A_, A_ = (if c0_0 = (1 : Int).toNat then A0_0 else (A0_0 : Option Addr).map (·.add ((1 : Int).toNat * 12))) := ⟨_, rfl⟩; obtain ⟨c31, hc31⟩ : ∃ c1, c1 = c0_0 - (1 : Int).toNat := ⟨_, rfl⟩; have hy31 : y168.length = l0_0.length - (1 : Int).toNat := (by rw [Ny168.out, List.length_drop] <;> omega); rw [show (l0_0).drop (1 : Int).toNat = y168 from Ny168.out.symm] at hr31; replace hr31 : Kd.C k50 _ A31 y168.length y168 := (by rw [hA31]; exact hr31); rw [← hy31, ← hA31, ← hc31] at hcut31; have HR171 := Aside0.mk hr31; have HC171 := Aside0.mk (show y168.length ≤ c31 from by rw [hy31, hc31]; exact Nat.sub_le_sub_right hroom31 _); clear hr31 hC31 hroom31 hi031 hsz31 hc31; have KY31 := Aside0.mk hy31; have KA31 := Aside0.mk hA31; clear hy31 hA31; replace q31 := eq_true q31))
        go_loopg [8, 41] k1 (fun kq v8 v41 w' => ∃ (x8_2 : List (List Bool)) (x41_2 : Int), v41 = .int .i64 x41_2 ∧ Aside0 (search_layers.l1 kq l1 x8_2 y168 (y168.length : Int) x41_2 = some r) ∧ Aside0 (kq ≤ k1) ∧ Aside0 (Kd.N (Kd.slice 4 Kd.bool) 86 w' w.heap.size (fun k_ => (w.heap.size ≤ k_) ∧ k_ ≠ gb155) v8 x8_2) ∧ Aside0 (w'.heap[gb155]? = some (.cells #[(.slice A0_0 l0_0.length c0_0)] 31 (0, 0))) ∧ Aside0 (Below w.heap.size w w'))
        case atStart => exact ⟨(y165), (0), (by first | rfl | (simp; done) | (simp [*]; done)), H', ⟨Nat.le_refl _⟩, ⟨by (with_reducible repeat (first | apply Kd.N_alloc | apply Kd.N_drewN | apply Kd.N_drew)); exact HO167.out⟩, ⟨bg BK155.out⟩, ⟨bs HB.out⟩⟩
        case round =>
         clear H'
         try clear c1
         try clear p1
         try clear q1
         try clear hx1
         try clear qi1
         try clear c2
         try clear p2
         try clear c3
         try clear q3
         try clear c4
         try clear c4b0
         try clear c4b1
         try clear c5
         try clear c5b0
         try clear c5b1
         try clear c6
         try clear c6b0
         try clear c6b1
         try clear p6
         try clear c12
         try clear c12b0
         try clear c13
         try clear c13b0
         try clear c14
         try clear c14b0
         try clear c15
         try clear c15b0
         try clear c15b1
         try clear p16
         try clear q16
         try clear hx16
         try clear qi16
         try clear c17
         try clear c17b0
         try clear p18
         try clear q18
         try clear hx18
         try clear hf18
         try clear c20
         try clear c26
         try clear c26b0
         try clear c26b1
         try clear c31
         try clear q31
         try clear hcz21_0 hcz21_1 hcz21_2 hcz21_3 hcz21_4 hcz21_5 hcz21_6 hcz21_7 hcz21_8
         try clear hcz30_0
         try clear hcz8_0
         try clear hfz21_0 hfz21_1 hfz21_2 hfz21_3 hfz21_4 hfz21_5 hfz21_6 hfz21_7 hfz21_8
         try clear hfz30_0
         try clear hfz8_0
         try clear hx160_0
         try clear hx160_1
         try clear hx160_2
         try clear hx160_3
         try clear hx160_4
         try clear hx160_5
         try clear hx160_6
         try clear hx160_7
         try clear hx160_8
         try clear hx162_0
         try clear hx162_1
         try clear hx162_10
         try clear hx162_11
         try clear hx162_2
         try clear hx162_3
         try clear hx162_4
         try clear hx162_5
         try clear hx162_6
         try clear hx162_7
         try clear hx162_8
         try clear hx162_9
         try clear hx18_0
         try clear p160
         try clear p162
         try clear p18
         try clear p2
         try clear q160
         try clear q162
         try clear q18
         try clear q31
         obtain ⟨x8_2, x41_2, rfl, HA, HK2, HO_8, BK155, HB⟩ := hrel
         cases gk with
         | zero => exact absurd HA.out (by simp [search_layers.l1])
         | succ k2 =>
          have H := HA.out
          clear HA
          simp only [search_layers.l1] at H
          by_cases c32 : x41_2 < (y168.length : Int)
          ·
           rw [if_pos c32] at H
           have c32b0 : decide (x41_2 < (y168.length : Int)) = true := decide_eq_true c32
           clear c32
           by_cases c33 : 0 ≤ x41_2
           ·
            rw [if_pos c33] at H
            have c33b0 : decide (0 ≤ x41_2) = true := decide_eq_true c33
            clear c33
            by_cases c34 : x41_2 < (y168.length : Int)
            ·
             rw [if_pos c34] at H
             have c34b0 : decide (x41_2 < (y168.length : Int)) = true := decide_eq_true c34
             clear c34
             by_cases c35 : x41_2 < (x8_2.length : Int)
             ·
              rw [if_pos c35] at H
              have c35b0 : decide (x41_2 < (x8_2.length : Int)) = true := decide_eq_true c35
              clear c35
              replace H := Option.bind_eq_some_iff.mp H
              obtain ⟨t175, A360, H⟩ := H
              replace H : (if x8_2.length < 5864062014805 then (search_layers.l1 k2 l1 (x8_2 ++ [t175]) y168 (y168.length : Int) (wrap64 (x41_2 + 1))) else (none)) = some r := H
              have A36 := Aside0.mk A360
              clear A360
              by_cases c37 : x8_2.length < 5864062014805
              ·
               rw [if_pos c37] at H
               have LMc37 := Aside0.mk c37
               clear c37
               obtain ⟨y178, hy178⟩ : ∃ y_ : List (List Bool), y_ = (x8_2 ++ [t175]) := ⟨_, rfl⟩
               replace H : (search_layers.l1 k2 l1 y178 y168 (y168.length : Int) (wrap64 (x41_2 + 1))) = some r := by first | (rw [hy178]; with_reducible exact H) | (have H2_ := (Option.bind_some _ _).symm.trans H; rw [hy178]; with_reducible exact H2_) | (have H2_ := (Option.bind_some _ _).symm.trans H; with_reducible exact H2_) | with_reducible exact H | (rw [hy178]; exact H) | exact H
               have Ny178 := Aside0.mk hy178
               clear hy178
               have H' := Aside0.mk H
               clear H
               have p172 : 0 ≤ (x41_2 : Int) := of_decide_eq_true (by first | (with_reducible assumption) | assumption)
               have q172 : x41_2 < (y168.length : Int) := of_decide_eq_true (by first | (with_reducible assumption) | assumption)
               obtain ⟨ad172, e172, hx172_0, hx172_1, hx172_2, hx172_3, hx172_4, hx172_5, hx172_6, hx172_7, hx172_8, hx172_9, hx172_10, hx172_11⟩ := at_T50 HR171.out x41_2 p172 q172
               cases e172
               replace hx172_0 := pw_cell_below HB.out hx172_0
               replace hx172_1 := pw_cell_below HB.out hx172_1
               replace hx172_2 := pw_cell_below HB.out hx172_2
               replace hx172_3 := pw_cell_below HB.out hx172_3
               replace hx172_4 := pw_cell_below HB.out hx172_4
               replace hx172_5 := pw_cell_below HB.out hx172_5
               replace hx172_6 := pw_cell_below HB.out hx172_6
               replace hx172_7 := pw_cell_below HB.out hx172_7
               replace hx172_8 := pw_cell_below HB.out hx172_8
               replace hx172_9 := pw_cell_below HB.out hx172_9
               replace hx172_10 := pw_cell_below HB.out hx172_10
               replace hx172_11 := pw_cell_below HB.out hx172_11
               replace p172 := eq_true p172
               replace q172 := eq_true q172
               try go_wp2_with (first | ((with_reducible refine gate_dst (N := 10) rfl ?_); refine box_event ?hg (N := 10) ?hd (cs := #[.int .i64 0, .int .i64 0, .int .i64 0, .int .i64 0, .int .i64 0, .int .i64 0, .bool false, .int .i64 0, .int .i64 0, .int .i64 0, .int .i64 0, .int .i64 0]) (t := 50) ?hr ?_; (case hd => rfl); (case hg => rfl); (case hr => first | (go_simp; done) | (go_simp; rfl)); intro gb173 hg w38 hbox hb; have n0_ := Aside0.mk (Kd.N_below (Kd.N_elderB (by (with_reducible repeat (first | apply Kd.N_alloc | apply Kd.N_drewN | apply Kd.N_drew)); exact HO_8.out) gb173 (Nat.le_of_eq hg.symm)) hb); have n1_ := Aside0.mk (blk_below (bg BK155.out) hb); have n2_ := Aside0.mk (below_step (bs HB.out) hb); have n3_ := Aside0.mk (hbox); have n4_ := Aside0.mk ((by rw [hg]; exact (below_size (bs HB.out)) : w.heap.size ≤ gb173)); have n5_ := n4_; have n6_ := Aside0.mk ((by rw [hg]; exact Nat.ne_of_lt (blk_lt (bg BK155.out)) : gb155 ≠ gb173)); have n7_ := Aside0.mk ((by rw [hg]; exact Nat.ne_of_gt (blk_lt (bg BK155.out)) : gb173 ≠ gb155)); clear HO_8; clear BK155; clear HB; have HO_8 := n0_; have BK155 := n1_; have HB := n2_; have BK173 := n3_; have GW173 := n4_; have GE173 := n5_; have NB155_173 := n6_; have NB173_155 := n7_; clear n0_ n1_ n2_ n3_ n4_ n5_ n6_ n7_; clear hb hbox hg; have hnb39 := NB173_155.out; have hnc39 := NB155_173.out; obtain ⟨hcz40_0, hcz40_1, hcz40_2, hcz40_3, hcz40_4, hcz40_5, hcz40_6, hcz40_7, hcz40_8, hcz40_9, hcz40_10, hcz40_11⟩ := bc12 BK173.out; obtain ⟨hfz40_0, hfz40_1, hfz40_2, hfz40_3, hfz40_4, hfz40_5, hfz40_6, hfz40_7, hfz40_8, hfz40_9, hfz40_10, hfz40_11⟩ := bf12 BK173.out))
               have n0_ : Aside0 (Kd.N (Kd.slice 4 Kd.bool) 86 ((((((((((((w38.setCell ⟨gb173, 0, none⟩ (.int .i64 ((rd_T50 y168 x41_2).f0.f0))).setCell ⟨gb173, 1, none⟩ (.int .i64 ((rd_T50 y168 x41_2).f0.f1))).setCell ⟨gb173, 2, none⟩ (.int .i64 ((rd_T50 y168 x41_2).f0.f2))).setCell ⟨gb173, 3, none⟩ (.int .i64 ((rd_T50 y168 x41_2).f0.f3))).setCell ⟨gb173, 4, none⟩ (.int .i64 ((rd_T50 y168 x41_2).f0.f4))).setCell ⟨gb173, 5, none⟩ (.int .i64 ((rd_T50 y168 x41_2).f1))).setCell ⟨gb173, 6, none⟩ (.bool ((rd_T50 y168 x41_2).f2))).setCell ⟨gb173, 7, none⟩ (.int .i64 ((rd_T50 y168 x41_2).f3.f0))).setCell ⟨gb173, 8, none⟩ (.int .i64 ((rd_T50 y168 x41_2).f3.f1))).setCell ⟨gb173, 9, none⟩ (.int .i64 ((rd_T50 y168 x41_2).f3.f2))).setCell ⟨gb173, 10, none⟩ (.int .i64 ((rd_T50 y168 x41_2).f3.f3))).setCell ⟨gb173, 11, none⟩ (.int .i64 ((rd_T50 y168 x41_2).f3.f4))) w.heap.size (fun k_ => (w.heap.size ≤ k_) ∧ k_ ≠ gb155 ∧ k_ ≠ gb173) u8 x8_2) := ⟨by (with_reducible repeat (first | apply Kd.N_alloc | apply Kd.N_drewN | apply Kd.N_drew)); exact Kd.N_mono (Kd.N_far (p := ⟨gb173, 11, none⟩) (Kd.N_far (p := ⟨gb173, 10, none⟩) (Kd.N_far (p := ⟨gb173, 9, none⟩) (Kd.N_far (p := ⟨gb173, 8, none⟩) (Kd.N_far (p := ⟨gb173, 7, none⟩) (Kd.N_far (p := ⟨gb173, 6, none⟩) (Kd.N_far (p := ⟨gb173, 5, none⟩) (Kd.N_far (p := ⟨gb173, 4, none⟩) (Kd.N_far (p := ⟨gb173, 3, none⟩) (Kd.N_far (p := ⟨gb173, 2, none⟩) (Kd.N_far (p := ⟨gb173, 1, none⟩) (Kd.N_far (p := ⟨gb173, 0, none⟩) (Kd.N_mono HO_8.out (fun k_ hk => (⟨hk, hk.2⟩ : _ ∧ k_ ≠ gb173))) (fun _ hk => hk.2) (.int .i64 ((rd_T50 y168 x41_2).f0.f0))) (fun _ hk => hk.2) (.int .i64 ((rd_T50 y168 x41_2).f0.f1))) (fun _ hk => hk.2) (.int .i64 ((rd_T50 y168 x41_2).f0.f2))) (fun _ hk => hk.2) (.int .i64 ((rd_T50 y168 x41_2).f0.f3))) (fun _ hk => hk.2) (.int .i64 ((rd_T50 y168 x41_2).f0.f4))) (fun _ hk => hk.2) (.int .i64 ((rd_T50 y168 x41_2).f1))) (fun _ hk => hk.2) (.bool ((rd_T50 y168 x41_2).f2))) (fun _ hk => hk.2) (.int .i64 ((rd_T50 y168 x41_2).f3.f0))) (fun _ hk => hk.2) (.int .i64 ((rd_T50 y168 x41_2).f3.f1))) (fun _ hk => hk.2) (.int .i64 ((rd_T50 y168 x41_2).f3.f2))) (fun _ hk => hk.2) (.int .i64 ((rd_T50 y168 x41_2).f3.f3))) (fun _ hk => hk.2) (.int .i64 ((rd_T50 y168 x41_2).f3.f4))) (fun _ hk => ⟨hk.1.1.1, ⟨hk.1.1.2, hk.1.2⟩⟩)⟩
               have n1_ : Aside0 (((((((((((((w38.setCell ⟨gb173, 0, none⟩ (.int .i64 ((rd_T50 y168 x41_2).f0.f0))).setCell ⟨gb173, 1, none⟩ (.int .i64 ((rd_T50 y168 x41_2).f0.f1))).setCell ⟨gb173, 2, none⟩ (.int .i64 ((rd_T50 y168 x41_2).f0.f2))).setCell ⟨gb173, 3, none⟩ (.int .i64 ((rd_T50 y168 x41_2).f0.f3))).setCell ⟨gb173, 4, none⟩ (.int .i64 ((rd_T50 y168 x41_2).f0.f4))).setCell ⟨gb173, 5, none⟩ (.int .i64 ((rd_T50 y168 x41_2).f1))).setCell ⟨gb173, 6, none⟩ (.bool ((rd_T50 y168 x41_2).f2))).setCell ⟨gb173, 7, none⟩ (.int .i64 ((rd_T50 y168 x41_2).f3.f0))).setCell ⟨gb173, 8, none⟩ (.int .i64 ((rd_T50 y168 x41_2).f3.f1))).setCell ⟨gb173, 9, none⟩ (.int .i64 ((rd_T50 y168 x41_2).f3.f2))).setCell ⟨gb173, 10, none⟩ (.int .i64 ((rd_T50 y168 x41_2).f3.f3))).setCell ⟨gb173, 11, none⟩ (.int .i64 ((rd_T50 y168 x41_2).f3.f4))).heap[gb155]? = some (.cells #[.slice A0_0 l0_0.length c0_0] 31 (0, 0))) := ⟨by (iterate 12 (with_reducible repeat (first | refine blk_drewN ?_ _ | refine blk_drew ?_ | refine blk_alloc ?_ _)); refine blk_far ?_ NB155_173.out _); exact bg BK155.out⟩
               have n2_ : Aside0 (((((((((((((w38.setCell ⟨gb173, 0, none⟩ (.int .i64 ((rd_T50 y168 x41_2).f0.f0))).setCell ⟨gb173, 1, none⟩ (.int .i64 ((rd_T50 y168 x41_2).f0.f1))).setCell ⟨gb173, 2, none⟩ (.int .i64 ((rd_T50 y168 x41_2).f0.f2))).setCell ⟨gb173, 3, none⟩ (.int .i64 ((rd_T50 y168 x41_2).f0.f3))).setCell ⟨gb173, 4, none⟩ (.int .i64 ((rd_T50 y168 x41_2).f0.f4))).setCell ⟨gb173, 5, none⟩ (.int .i64 ((rd_T50 y168 x41_2).f1))).setCell ⟨gb173, 6, none⟩ (.bool ((rd_T50 y168 x41_2).f2))).setCell ⟨gb173, 7, none⟩ (.int .i64 ((rd_T50 y168 x41_2).f3.f0))).setCell ⟨gb173, 8, none⟩ (.int .i64 ((rd_T50 y168 x41_2).f3.f1))).setCell ⟨gb173, 9, none⟩ (.int .i64 ((rd_T50 y168 x41_2).f3.f2))).setCell ⟨gb173, 10, none⟩ (.int .i64 ((rd_T50 y168 x41_2).f3.f3))).setCell ⟨gb173, 11, none⟩ (.int .i64 ((rd_T50 y168 x41_2).f3.f4))).heap[gb173]? = some (.cells #[.int .i64 ((rd_T50 y168 x41_2).f0.f0), .int .i64 ((rd_T50 y168 x41_2).f0.f1), .int .i64 ((rd_T50 y168 x41_2).f0.f2), .int .i64 ((rd_T50 y168 x41_2).f0.f3), .int .i64 ((rd_T50 y168 x41_2).f0.f4), .int .i64 ((rd_T50 y168 x41_2).f1), .bool ((rd_T50 y168 x41_2).f2), .int .i64 ((rd_T50 y168 x41_2).f3.f0), .int .i64 ((rd_T50 y168 x41_2).f3.f1), .int .i64 ((rd_T50 y168 x41_2).f3.f2), .int .i64 ((rd_T50 y168 x41_2).f3.f3), .int .i64 ((rd_T50 y168 x41_2).f3.f4)] 50 (0, 0))) := ⟨by exact pt12 (bg BK173.out)⟩
               have n3_ : Aside0 (Below w.heap.size w ((((((((((((w38.setCell ⟨gb173, 0, none⟩ (.int .i64 ((rd_T50 y168 x41_2).f0.f0))).setCell ⟨gb173, 1, none⟩ (.int .i64 ((rd_T50 y168 x41_2).f0.f1))).setCell ⟨gb173, 2, none⟩ (.int .i64 ((rd_T50 y168 x41_2).f0.f2))).setCell ⟨gb173, 3, none⟩ (.int .i64 ((rd_T50 y168 x41_2).f0.f3))).setCell ⟨gb173, 4, none⟩ (.int .i64 ((rd_T50 y168 x41_2).f0.f4))).setCell ⟨gb173, 5, none⟩ (.int .i64 ((rd_T50 y168 x41_2).f1))).setCell ⟨gb173, 6, none⟩ (.bool ((rd_T50 y168 x41_2).f2))).setCell ⟨gb173, 7, none⟩ (.int .i64 ((rd_T50 y168 x41_2).f3.f0))).setCell ⟨gb173, 8, none⟩ (.int .i64 ((rd_T50 y168 x41_2).f3.f1))).setCell ⟨gb173, 9, none⟩ (.int .i64 ((rd_T50 y168 x41_2).f3.f2))).setCell ⟨gb173, 10, none⟩ (.int .i64 ((rd_T50 y168 x41_2).f3.f3))).setCell ⟨gb173, 11, none⟩ (.int .i64 ((rd_T50 y168 x41_2).f3.f4)))) := ⟨bs HB.out⟩
               (try clear HO_8)
               (try clear BK155)
               (try clear BK173)
               (try clear HB)
               generalize ((((((((((((w38.setCell ⟨gb173, 0, none⟩ (.int .i64 ((rd_T50 y168 x41_2).f0.f0))).setCell ⟨gb173, 1, none⟩ (.int .i64 ((rd_T50 y168 x41_2).f0.f1))).setCell ⟨gb173, 2, none⟩ (.int .i64 ((rd_T50 y168 x41_2).f0.f2))).setCell ⟨gb173, 3, none⟩ (.int .i64 ((rd_T50 y168 x41_2).f0.f3))).setCell ⟨gb173, 4, none⟩ (.int .i64 ((rd_T50 y168 x41_2).f0.f4))).setCell ⟨gb173, 5, none⟩ (.int .i64 ((rd_T50 y168 x41_2).f1))).setCell ⟨gb173, 6, none⟩ (.bool ((rd_T50 y168 x41_2).f2))).setCell ⟨gb173, 7, none⟩ (.int .i64 ((rd_T50 y168 x41_2).f3.f0))).setCell ⟨gb173, 8, none⟩ (.int .i64 ((rd_T50 y168 x41_2).f3.f1))).setCell ⟨gb173, 9, none⟩ (.int .i64 ((rd_T50 y168 x41_2).f3.f2))).setCell ⟨gb173, 10, none⟩ (.int .i64 ((rd_T50 y168 x41_2).f3.f3))).setCell ⟨gb173, 11, none⟩ (.int .i64 ((rd_T50 y168 x41_2).f3.f4))) = w41 at n0_ n1_ n2_ n3_ ⊢
               have HO_8 := n0_
               have BK155 := n1_
               have BK173 := n2_
               have HB := n3_
               clear n0_ n1_ n2_ n3_
               have n0_ := Aside0.mk (Kd.N_drew HO_8.out)
               have n1_ := Aside0.mk (blk_drew BK155.out)
               have n2_ := Aside0.mk (blk_drew BK173.out)
               have n3_ := Aside0.mk (below_drew1 HB.out)
               clear HO_8
               clear BK155
               clear BK173
               clear HB
               have HO_8 := n0_
               have BK155 := n1_
               have BK173 := n2_
               have HB := n3_
               clear n0_ n1_ n2_ n3_
               obtain ⟨Ao43, co43, eo43⟩ := Kd.N_slice HO_8.out
               (first | subst eo43 | (injection eo43 with f1_ f2_ f3_; have f4_ := f1_.symm; have f5_ := f3_.symm; clear f1_ f2_ f3_; subst f4_; subst f5_))
               have p174 : 0 ≤ (x41_2 : Int) := of_decide_eq_true (by first | (with_reducible assumption) | assumption)
               have q174 : x41_2 < (x8_2.length : Int) := of_decide_eq_true (by first | (with_reducible assumption) | assumption)
               obtain ⟨ad174, A174_0, c174_0, e174, hx174_0, hl174_0, hi174_0⟩ := at_L11 (Kd.N_reads' HO_8.out).2.2 x41_2 p174 q174
               cases e174
               obtain ⟨ce174, hce174, hMe174, hcc174⟩ := Kd.N_get HO_8.out [] x41_2 p174 (by first | exact q174 | exact of_decide_eq_true (by first | (with_reducible assumption) | assumption) | (have e_ := (Kd.N_reads' HO_8.out).1; omega))
               obtain ⟨ua174_0, uc174_0, rfl, ul174_0, ge174_0⟩ := Kd.FK_slice_open hMe174
               have hv174_0 := hcc174 0 _ rfl
               rw [Nat.add_zero, show ((Kd.slice 4 Kd.bool)).sz = 1 from rfl, Nat.mul_one] at hv174_0
               replace hv174_0 := Option.some.inj (hv174_0.symm.trans hx174_0)
               injection hv174_0 with hva_ hvn_ hvc_
               rw [hva_] at ge174_0
               rw [hvc_] at ul174_0
               have HL174_0 := Aside0.mk (show Kd.V Kd.bool 4 _ w.heap.size _ _ (rd_L11 x8_2 x41_2) from Kd.V_mk ul174_0 ge174_0)
               clear hva_ hvn_ hvc_ ge174_0 ul174_0
               clear hcc174 hce174
               have HR174_0 := Aside0.mk hi174_0
               have HC174_0 := Aside0.mk hl174_0
               clear hi174_0 hl174_0
               replace p174 := eq_true p174
               replace q174 := eq_true q174
               refine start_ (n := 11) (S := fun w' => w'.cell? ⟨gb173, 0, none⟩ = some (.int .i64 ((rd_T50 y168 x41_2).f0.f0)) ∧ w'.cell? ⟨gb173, 1, none⟩ = some (.int .i64 ((rd_T50 y168 x41_2).f0.f1)) ∧ w'.cell? ⟨gb173, 2, none⟩ = some (.int .i64 ((rd_T50 y168 x41_2).f0.f2)) ∧ w'.cell? ⟨gb173, 3, none⟩ = some (.int .i64 ((rd_T50 y168 x41_2).f0.f3)) ∧ w'.cell? ⟨gb173, 4, none⟩ = some (.int .i64 ((rd_T50 y168 x41_2).f0.f4)) ∧ w'.cell? ⟨gb173, 5, none⟩ = some (.int .i64 ((rd_T50 y168 x41_2).f1)) ∧ w'.cell? ⟨gb173, 6, none⟩ = some (.bool ((rd_T50 y168 x41_2).f2)) ∧ w'.cell? ⟨gb173, 7, none⟩ = some (.int .i64 ((rd_T50 y168 x41_2).f3.f0)) ∧ w'.cell? ⟨gb173, 8, none⟩ = some (.int .i64 ((rd_T50 y168 x41_2).f3.f1)) ∧ w'.cell? ⟨gb173, 9, none⟩ = some (.int .i64 ((rd_T50 y168 x41_2).f3.f2)) ∧ w'.cell? ⟨gb173, 10, none⟩ = some (.int .i64 ((rd_T50 y168 x41_2).f3.f3)) ∧ w'.cell? ⟨gb173, 11, none⟩ = some (.int .i64 ((rd_T50 y168 x41_2).f3.f4)) ∧ w'.cell? (ad174.add (x41_2).toNat) = some (.slice A174_0 (rd_L11 x8_2 x41_2).length c174_0)) (ds := [8, 9]) (bsq 0 11) (by kernel_rfl) rfl rfl ⟨(blk_cell BK173.out 0).trans rfl, (blk_cell BK173.out 1).trans rfl, (blk_cell BK173.out 2).trans rfl, (blk_cell BK173.out 3).trans rfl, (blk_cell BK173.out 4).trans rfl, (blk_cell BK173.out 5).trans rfl, (blk_cell BK173.out 6).trans rfl, (blk_cell BK173.out 7).trans rfl, (blk_cell BK173.out 8).trans rfl, (blk_cell BK173.out 9).trans rfl, (blk_cell BK173.out 10).trans rfl, (blk_cell BK173.out 11).trans rfl, hx174_0⟩ (fun hHeld => ?_); refine with_tabW search_layers.tab13 search_layers.bits13 (fun HT_ HW_ => ?_)
               generalize w41.drew = w42 at HO_8 BK155 BK173 HB HL174_0 HR174_0 hx174_0 hHeld ⊢
               refine pu 0 46 (bsq 1 10) ?_
               refine pu 2 48 (bls [1, 1, 1, 8]) ?_
               refine pu 3 49 (bls [1, 1, 2, 7]) ?_
               refine pu 4 50 (bls [1, 1, 3, 6]) ?_
               refine pu 5 51 (bls [1, 1, 4, 5]) ?_
               refine tk 1 47 (bsq 6 5) hHeld ?_ (he := by rintro w' ⟨s0, s1, s2, s3, s4, s5, s6, s7, s8, s9, s10, s11, s12⟩; go_simp; with_reducible rfl)
               refine tk 6 52 (bsq 7 4) hHeld ?_ (he := by rintro w' ⟨s0, s1, s2, s3, s4, s5, s6, s7, s8, s9, s10, s11, s12⟩; go_simp; with_reducible rfl)
               refine one_ (i := 7) (N := some 53) (bsq 8 3) rfl rfl (one_of HT_.out (by kernel_rfl)) (by decide) (fun K hK => ?_)
               refine goes_ Try.func78 (by kernel_rfl) rfl #[.agg #[.int .i64 ((rd_T50 y168 x41_2).f0.f0), .int .i64 ((rd_T50 y168 x41_2).f0.f1), .int .i64 ((rd_T50 y168 x41_2).f0.f2), .int .i64 ((rd_T50 y168 x41_2).f0.f3), .int .i64 ((rd_T50 y168 x41_2).f0.f4), .int .i64 ((rd_T50 y168 x41_2).f1), .bool ((rd_T50 y168 x41_2).f2), .int .i64 ((rd_T50 y168 x41_2).f3.f0), .int .i64 ((rd_T50 y168 x41_2).f3.f1), .int .i64 ((rd_T50 y168 x41_2).f3.f2), .int .i64 ((rd_T50 y168 x41_2).f3.f3), .int .i64 ((rd_T50 y168 x41_2).f3.f4)], .slice A1 l1.length c1, .slice A174_0 (rd_L11 x8_2 x41_2).length c174_0] (by rfl) rfl rfl (by (try simp only [List.map_toArray, List.map_cons, List.map_nil]); first | done | rfl | (simp only [List.length_drop, List.length_take]; rfl)) ?_
               with_reducible refine (search_reach.calls k2 ((rd_T50 y168 x41_2).f0.f0) ((rd_T50 y168 x41_2).f0.f1) ((rd_T50 y168 x41_2).f0.f2) ((rd_T50 y168 x41_2).f0.f3) ((rd_T50 y168 x41_2).f0.f4) ((rd_T50 y168 x41_2).f1) ((rd_T50 y168 x41_2).f2) ((rd_T50 y168 x41_2).f3.f0) ((rd_T50 y168 x41_2).f3.f1) ((rd_T50 y168 x41_2).f3.f2) ((rd_T50 y168 x41_2).f3.f3) ((rd_T50 y168 x41_2).f3.f4) _ _ l1 _ _ (rd_L11 x8_2 x41_2) t175 _ ?side1 ?side2 ?side3 ?side4 A36.out).mono ?_
               (case side1 => repeat (first | exact (Kd.C_below HR1.out HB.out) | (with_reducible refine Kd.C_alloc ?_ _) | (with_reducible refine Kd.C_drewN ?_ _) | (with_reducible refine Kd.C_drew ?_)))
               (case side2 => exact HC1.out)
               (case side3 => repeat (first | exact (by repeat (first | (with_reducible exact HR174_0.out) | (with_reducible refine Kd.C_alloc ?_ _) | (with_reducible refine Kd.C_drewN ?_ _) | (with_reducible refine Kd.C_drew ?_) | exact HR174_0.out)) | (with_reducible refine Kd.C_alloc ?_ _) | (with_reducible refine Kd.C_drewN ?_ _) | (with_reducible refine Kd.C_drew ?_)))
               (case side4 => exact HC174_0.out)
               rintro e w44 ⟨v176, rfl, ho0, hb⟩
               have HS12_ := (hb.cell (World.block_lt_of_cell? _ _ (hHeld.2.2.2.2.2.2.2.2.2.2.2.2))).trans (hHeld.2.2.2.2.2.2.2.2.2.2.2.2)
               refine ⟨_, rfl, ?_⟩
               have n0_ := Aside0.mk (Kd.N_elder' (by (with_reducible repeat (first | apply Kd.N_alloc | apply Kd.N_drewN | apply Kd.N_drew)); exact HO_8.out) (Kd.R_base ho0) hb)
               have n1_ := Aside0.mk (Kd.V_elder' (by (with_reducible repeat (first | apply Kd.V_alloc | apply Kd.V_drewN | apply Kd.V_drew)); exact HL174_0.out) (Kd.R_base ho0) hb)
               have n2_ := Aside0.mk (Kd.R_lower (Kd.R_newM (M := fun k_ => (w.heap.size ≤ k_)) ho0 (below_size (bs HB.out)) (fun k_ h_ => h_)) (below_size (bs HB.out)))
               have n3_ := Aside0.mk (blk_below (bg BK155.out) hb)
               have n4_ := Aside0.mk (blk_below (bg BK173.out) hb)
               have n5_ := Aside0.mk (Kd.C_below (by repeat (first | (with_reducible exact HR174_0.out) | (with_reducible refine Kd.C_alloc ?_ _) | (with_reducible refine Kd.C_drewN ?_ _) | (with_reducible refine Kd.C_drew ?_) | exact HR174_0.out)) hb)
               have n6_ := Aside0.mk (below_step (bs HB.out) hb)
               clear HO_8
               clear HL174_0
               clear BK155
               clear BK173
               clear HR174_0
               clear HB
               have HO_8 := n0_
               have HL174_0 := n1_
               have HO177 := n2_
               have BK155 := n3_
               have BK173 := n4_
               have HR174_0 := n5_
               have HB := n6_
               clear n0_ n1_ n2_ n3_ n4_ n5_ n6_
               (try clear hb)
               (try clear hb2)
               (try clear hk)
               (try clear hi)
               (try clear ho0)
               obtain ⟨Ao46, co46, eo46⟩ := Kd.R_slice HO177.out
               (first | subst eo46 | (injection eo46 with f1_ f2_ f3_; have f4_ := f1_.symm; have f5_ := f3_.symm; clear f1_ f2_ f3_; subst f4_; subst f5_))
               refine hK.out _ _ ⟨(blk_cell BK173.out 0).trans rfl, (blk_cell BK173.out 1).trans rfl, (blk_cell BK173.out 2).trans rfl, (blk_cell BK173.out 3).trans rfl, (blk_cell BK173.out 4).trans rfl, (blk_cell BK173.out 5).trans rfl, (blk_cell BK173.out 6).trans rfl, (blk_cell BK173.out 7).trans rfl, (blk_cell BK173.out 8).trans rfl, (blk_cell BK173.out 9).trans rfl, (blk_cell BK173.out 10).trans rfl, (blk_cell BK173.out 11).trans rfl, HS12_⟩ (fun hHeld => ?_)
               clear hK K
               refine norm_ (a' := ?_) ?_ ?_
               rotate_left
               ·
                show Act.put _ (some 53) _ = _
                simp only [Act.put, List.setIfInBounds_toArray, List.set_cons_zero, List.set_cons_succ, i64_w, i32_w]
                rfl
               refine last_ (i := 8) (N := some 54) (bsq 9 2) rfl rfl (one_of HT_.out (by kernel_rfl)) (by decide) (fun K hK => ?_)
               refine value_ (w1 := ?_) (v := ?_) (by rfl) rfl ?_ ?_
               rotate_left 2
               ·
                go_simp
                constructor
                ·
                 rfl
                ·
                 rfl
               refine hK.out _ _ ?_
               clear hK K
               refine norm_ (a' := ?_) ?_ ?_
               rotate_left
               ·
                show Act.put _ (some 54) _ = _
                simp only [Act.put, List.setIfInBounds_toArray, List.set_cons_zero, List.set_cons_succ, i64_w, i32_w]
                rfl
               refine last_ (i := 9) (N := some 55) (bsq 10 1) rfl rfl (one_of HT_.out (by kernel_rfl)) (by decide) (fun K hK => ?_)
               refine Kd.N_append_step (Kd.slice 4 Kd.bool) (w0 := w) w.heap.size (by rfl) (.tmp 46) (.tmp 54) 87 86 (.slice none 0 0) 24 rfl Try.underlying87 info86 rfl (by decide) (by omega) (.slice (some ad174) x8_2.length co43) x8_2 t175 [.slice Ao46 t175.length co46] (fun k_ => (w.heap.size ≤ k_) ∧ k_ ≠ gb155 ∧ k_ ≠ gb173) (fun k_ => ((fun k_ => (w.heap.size ≤ k_) ∧ k_ ≠ gb155 ∧ k_ ≠ gb173)) k_ ∧ some k_ ≠ (.slice (some ad174) x8_2.length co43 : Value).ownBlock) rfl rfl ?aP (fun _ hk => hk) ?aF ?aO ?aB ?aS ?aL ?_
               (case aP => exact (Kd.FK_slice_mk (Kd.R_reads' (Kd.R_mono (ok' := (fun k_ => ((fun k_ => (w.heap.size ≤ k_) ∧ k_ ≠ gb155 ∧ k_ ≠ gb173)) k_ ∧ some k_ ≠ (.slice (some ad174) x8_2.length co43 : Value).ownBlock)) (Kd.R_types (Kd.R_types (Kd.R_apart' (HO177.out) (Kd.N_typed HO_8.out) (by decide)) BK155.out (by decide)) BK173.out (by decide)) (fun k_ hk => ⟨⟨hk.1.1.1.1, ⟨hk.1.2, hk.2⟩⟩, hk.1.1.2⟩))).2.1 (Kd.R_F (Kd.R_mono (ok' := (fun k_ => ((fun k_ => (w.heap.size ≤ k_) ∧ k_ ≠ gb155 ∧ k_ ≠ gb173)) k_ ∧ some k_ ≠ (.slice (some ad174) x8_2.length co43 : Value).ownBlock)) (Kd.R_types (Kd.R_types (Kd.R_apart' (HO177.out) (Kd.N_typed HO_8.out) (by decide)) BK155.out (by decide)) BK173.out (by decide)) (fun k_ hk => ⟨⟨hk.1.1.1.1, ⟨hk.1.2, hk.2⟩⟩, hk.1.1.2⟩)))))
               (case aB => exact (bs HB.out))
               (case aF => exact (fun k_ hk => ⟨(Nat.le_trans (below_size (bs HB.out)) hk), Kd.freshB (g := gb155) (o := .cells #[.slice A0_0 l0_0.length c0_0] 31 (0, 0)) (bg BK155.out) k_ hk, Kd.freshB (g := gb173) (o := .cells #[.int .i64 ((rd_T50 y168 x41_2).f0.f0), .int .i64 ((rd_T50 y168 x41_2).f0.f1), .int .i64 ((rd_T50 y168 x41_2).f0.f2), .int .i64 ((rd_T50 y168 x41_2).f0.f3), .int .i64 ((rd_T50 y168 x41_2).f0.f4), .int .i64 ((rd_T50 y168 x41_2).f1), .bool ((rd_T50 y168 x41_2).f2), .int .i64 ((rd_T50 y168 x41_2).f3.f0), .int .i64 ((rd_T50 y168 x41_2).f3.f1), .int .i64 ((rd_T50 y168 x41_2).f3.f2), .int .i64 ((rd_T50 y168 x41_2).f3.f3), .int .i64 ((rd_T50 y168 x41_2).f3.f4)] 50 (0, 0)) (bg BK173.out) k_ hk⟩))
               (case aO => exact (by (with_reducible repeat (first | apply Kd.N_alloc | apply Kd.N_drewN | apply Kd.N_drew)); exact Kd.N_mono HO_8.out (fun _ hk => ⟨hk.1.1, ⟨hk.1.2.1, hk.1.2.2⟩⟩)))
               (case aS => exact (below_size (bs HB.out)))
               (case aL => have := LMc37.out; omega)
               intro v179 w45 ho hb hg hat
               rw [← Ny178.out] at ho
               have n0_ := Aside0.mk (blk_grown (g := gb155) (o := .cells #[.slice A0_0 l0_0.length c0_0] 31 (0, 0)) (bg BK155.out) hg (Kd.N_ne HO_8.out BK155.out (by decide)))
               have n1_ := Aside0.mk (blk_grown (g := gb173) (o := .cells #[.int .i64 ((rd_T50 y168 x41_2).f0.f0), .int .i64 ((rd_T50 y168 x41_2).f0.f1), .int .i64 ((rd_T50 y168 x41_2).f0.f2), .int .i64 ((rd_T50 y168 x41_2).f0.f3), .int .i64 ((rd_T50 y168 x41_2).f0.f4), .int .i64 ((rd_T50 y168 x41_2).f1), .bool ((rd_T50 y168 x41_2).f2), .int .i64 ((rd_T50 y168 x41_2).f3.f0), .int .i64 ((rd_T50 y168 x41_2).f3.f1), .int .i64 ((rd_T50 y168 x41_2).f3.f2), .int .i64 ((rd_T50 y168 x41_2).f3.f3), .int .i64 ((rd_T50 y168 x41_2).f3.f4)] 50 (0, 0)) (bg BK173.out) hg (Kd.N_ne HO_8.out BK173.out (by decide)))
               have n2_ := Aside0.mk (Kd.V_afterv (ok := (fun k_ => (w.heap.size ≤ k_) ∧ some k_ ≠ (.slice Ao46 t175.length co46 : Value).ownBlock ∧ k_ ≠ gb155 ∧ k_ ≠ gb173)) (by (with_reducible repeat (first | apply Kd.V_alloc | apply Kd.V_drewN | apply Kd.V_drew)); exact Kd.V_mono HL174_0.out (fun _ hk => ⟨⟨hk.1.1.1, ⟨hk.2, ⟨hk.1.1.2.1, hk.1.1.2.2⟩⟩⟩, hk.1.2⟩)) hg hat)
               have n3_ := Aside0.mk (hb)
               have n4_ := Aside0.mk (ho)
               clear BK155
               clear BK173
               clear HL174_0
               clear HB
               clear HO_8
               clear HO177
               have BK155 := n0_
               have BK173 := n1_
               have HL174_0 := n2_
               have HB := n3_
               have HO180 := n4_
               clear n0_ n1_ n2_ n3_ n4_
               clear ho hb hg hat
               refine hK.out _ _ ?_
               clear hK K
               refine norm_ (a' := ?_) ?_ ?_
               rotate_left
               ·
                show Act.put _ (some 55) _ = _
                simp only [Act.put, List.setIfInBounds_toArray, List.set_cons_zero, List.set_cons_succ, i64_w, i32_w]
                rfl
               refine pu 10 8 (bsq 11 0) ?_
               refine done_ (done_of HT_.out (by kernel_rfl)) ?_
               try go_wp2
               go_roundg k2
               case measure => have := HK1.out; have := HK2.out; omega
               case rel => exact ⟨(y178), (wrap64 (x41_2 + 1)), (by first | rfl | (simp; done) | (simp [*]; done)), H', ⟨by have := HK1.out; have := HK2.out; omega⟩, ⟨by (with_reducible repeat (first | apply Kd.N_alloc | apply Kd.N_drewN | apply Kd.N_drew)); exact Kd.N_mono HO180.out (fun _ hk => ⟨hk.1, hk.2.1⟩)⟩, ⟨bg BK155.out⟩, ⟨bs HB.out⟩⟩
              ·
               rw [if_neg c37] at H
               exact absurd H (by simp)
             ·
              rw [if_neg c35] at H
              exact absurd H (by simp)
            ·
             rw [if_neg c34] at H
             exact absurd H (by simp)
           ·
            rw [if_neg c33] at H
            exact absurd H (by simp)
          ·
           rw [if_neg c32] at H
           have c32b0 : decide (x41_2 < (y168.length : Int)) = false := decide_eq_false c32
           clear c32
           obtain rfl := Option.some.inj H
           go_wp2
           go_ret
           exact ⟨_, by first | rfl | (simp [errW_none, errW_some] <;> rfl) | (simp [*, errW_none, errW_some] <;> rfl), by (with_reducible repeat (first | apply Kd.N_alloc | apply Kd.N_drewN | apply Kd.N_drew)); exact Kd.N_mono HO_8.out (fun _ hk => hk.1), bs HB.out⟩
       ·
        rw [if_neg c26] at H
        exact absurd H (by simp)
   ·
    rw [if_neg c6] at H
    exact absurd H (by simp)
  ·
   rw [if_neg c5] at H
   exact absurd H (by simp)
 ·
  rw [if_neg c4] at H
  have c4b0 : (t156 == 0) = false := beq_eq_false_iff_ne.mpr c4
  have c4b1 : (t156 != 0) = true := bne_iff_ne.mpr c4
  obtain rfl := Option.some.inj H
  go_enter Try.func63, Try.ntmps63
  go_wp2_with (first | ((with_reducible refine gate_dst (N := 2) rfl ?_); refine box_event ?hg (N := 2) ?hd (cs := #[.slice A0_0 l0_0.length c0_0]) (t := 31) ?hr ?_; (case hd => rfl); (case hg => rfl); (case hr => first | (go_simp; done) | (go_simp; rfl)); intro gb155 hg w47 hbox hb; have n0_ := Aside0.mk (below_step (bs HB.out) hb); have n1_ := Aside0.mk (hbox); have n2_ := Aside0.mk ((by rw [hg]; exact (below_size (bs HB.out)) : w.heap.size ≤ gb155)); have n3_ := n2_; clear HB; have HB := n0_; have BK155 := n1_; have GW155 := n2_; have GE155 := n3_; clear n0_ n1_ n2_ n3_; clear hb hbox hg; have hcz48_0 : w47.cell? ⟨gb155, 0, none⟩ = some (.slice A0_0 l0_0.length c0_0) := (blk_cell BK155.out 0).trans rfl; have hfz48_0 := blk_frozen BK155.out 0) | ((with_reducible refine gate_callee (f := 20) rfl ?_); refine goesL_ (some 12) rfl rfl Try.func20 (by kernel_rfl) rfl #[.agg #[.slice A0_0 l0_0.length c0_0]] rfl (by (try simp only [List.map_toArray, List.map_cons, List.map_nil]); first | done | rfl | (simp only [List.length_drop, List.length_take]; rfl)) ?_; (with_reducible refine (trigauto_Check.calls k _ _ l0_0 t156 _ ?side1 ?side2 A3.out).mono ?_); (case side1 => repeat (first | exact (Kd.C_below HR0_0.out HB.out) | (with_reducible refine Kd.C_alloc ?_ _) | (with_reducible refine Kd.C_drewN ?_ _) | (with_reducible refine Kd.C_drew ?_))); (case side2 => exact HC0_0.out); rintro e w49 ⟨rfl, hb⟩; refine ⟨_, rfl, ?_⟩; have n0_ := Aside0.mk (blk_below (bg BK155.out) hb); have n1_ := Aside0.mk (below_step (bs HB.out) hb); clear BK155; clear HB; have BK155 := n0_; have HB := n1_; clear n0_ n1_; (try clear hb); (try clear hb2); (try clear hk); (try clear hi)))
  go_ret
  exact ⟨_, by first | rfl | (simp [errW_none, errW_some] <;> rfl) | (simp [*, errW_none, errW_some] <;> rfl), by first | exact Kd.S_nil _ _ _ _ _ | exact Kd.N_nil _ _ _ _ _ | exact Kd.V_nil _ _ _ _ _ | exact Kd.Q_nil _ _ _ _ _ | exact Kd.R_nil _ _ _ _ _, bs HB.out⟩

end Go.Proofs.Ytgdjiphljadlcaa.K
