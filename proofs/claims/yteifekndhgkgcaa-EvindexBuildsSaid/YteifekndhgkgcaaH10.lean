-- Printed by wip/hprint.py (this project's own driver of the kit's print) out of the translation; Lean checks it.
import Derived.Test.YteifekndhgkgcaaH0
import Derived.Test.YteifekndhgkgcaaH7
import Derived.Test.YteifekndhgkgcaaH8
import Derived.Test.YteifekndhgkgcaaH9
namespace Go.Proofs.Yteifekndhgkgcaa.H
open Go.RowKit Go.Proofs.YteifekndhgkgcaaW.PrintWords Go.Proofs.YteifekndhgkgcaaW.PrintLast Go.Proofs.YteifekndhgkgcaaW.PrintMore
attribute [local go_sem] max2_int min2_int max_two min_two max_three min_three max_four min_four   -- for this text's walks alone
set_option linter.unusedVariables false
set_option linter.unusedSimpArgs false

/-! ### signalbenchref46_Check: function 15 -/
mutual
def signalbenchref46_Check.l0 : Nat → List Int → Bool → Int → Int → List (S43) → Option (Int)
 | 0, _, _, _, _, _ => none
 | k + 1, x3, x4, x5, x173000, x173001 => if x5 < (x173001.length : Int) then (if 0 ≤ x5 then (if x5 > 0 then (if 0 ≤ (wrap64 (x5 - 1)) then (if (wrap64 (x5 - 1)) < (x173001.length : Int) then ((signalbenchref46_before.f ((rd_T43 x173001 (wrap64 (x5 - 1))).f0) ((rd_T43 x173001 (wrap64 (x5 - 1))).f1) ((rd_T43 x173001 (wrap64 (x5 - 1))).f2) ((rd_T43 x173001 x5).f0) ((rd_T43 x173001 x5).f1)).bind fun t179 => (signalbenchref46_Check.j1 k x3 x4 x5 (!t179) x173000 x173001 ((rd_T43 x173001 x5).f0) ((rd_T43 x173001 x5).f1) ((rd_T43 x173001 x5).f2))) else (none)) else (none)) else (signalbenchref46_Check.j1 k x3 x4 x5 false x173000 x173001 ((rd_T43 x173001 x5).f0) ((rd_T43 x173001 x5).f1) ((rd_T43 x173001 x5).f2))) else (none)) else (if x4 = true then (some 9) else (if (x3.length : Int) < x173000 then (some 12) else (some 0)))
def signalbenchref46_Check.j1 : Nat → List Int → Bool → Int → Bool → Int → List (S43) → Int → Int → List Int → Option (Int)
 | 0, _, _, _, _, _, _, _, _, _ => none
 | k + 1, x3, x4, x5, x40, x173000, x173001, x178000, x178001, x178002 => if x40 = true then (some 7) else ((signalbenchref46_wrongPlaces.f k x178002 x173000).bind fun t180 => (if t180 = 0 then (signalbenchref46_Check.l1 k x3 x4 x5 0 x173000 x173001 x178000 x178001 x178002) else (some t180)))
def signalbenchref46_Check.l1 : Nat → List Int → Bool → Int → Int → Int → List (S43) → Int → Int → List Int → Option (Int)
 | 0, _, _, _, _, _, _, _, _, _ => none
 | k + 1, x3, x4, x5, x8, x173000, x173001, x178000, x178001, x178002 => if x8 < (x178002.length : Int) then (if x4 = true then (signalbenchref46_Check.l1 k x3 true x5 (wrap64 (x8 + 1)) x173000 x173001 x178000 x178001 x178002) else (if 0 ≤ x8 then ((signalbenchref46_has.f k x3 (rd x178002 x8)).bind fun t182 => (signalbenchref46_Check.l1 k x3 t182 x5 (wrap64 (x8 + 1)) x173000 x173001 x178000 x178001 x178002)) else (none))) else (if x3.length + x178002.length < 17592186044416 then (signalbenchref46_Check.l0 k (x3 ++ x178002) x4 (wrap64 (x5 + 1)) x173000 x173001) else (none))
end
def signalbenchref46_Check.f (k : Nat) (a0_0 : Int) (l0_1 : List (S43)) : Option (Int) := if a0_0 < 0 then (some 2) else (signalbenchref46_Check.l0 k (([] : List Int)) false 0 a0_0 l0_1)
def signalbenchref46_Check.T8 : Bool × List (List Nat × List Nat) := (true, [([], []), ([0], [0]), ([1], [1]), ([2], [2]), ([3, 2], [2, 3]), ([2], [2]), ([5, 2], [2, 5]), ([4, 6, 2], [2, 4, 6]), ([7, 2], [2, 7]), ([2], [2]), ([9, 2], [2, 9]), ([2], [2]), ([11, 2], [2, 11]), ([8, 10, 12, 2, 2], [2, 8, 10, 12]), ([13, 2], [2, 13]), ([2, 14], [2, 14])])
def signalbenchref46_Check.B8 : List Nat := [0, 1, 3, 7, 15, 7, 39, 127, 255, 7, 519, 7, 2055, 8191, 16383, 32767]
theorem signalbenchref46_Check.tab8 : rtab .any (opsOf Try.f15 8) = signalbenchref46_Check.T8 := by kernel_rfl
theorem signalbenchref46_Check.bits8 : waitsOk signalbenchref46_Check.T8.2 signalbenchref46_Check.B8 = true := by kernel_rfl
set_option maxHeartbeats 8000000 in
set_option maxRecDepth 100000 in
theorem signalbenchref46_Check.calls (k : Nat) (a0_0 : Int) (A0_1 : Option Addr) (c0_1 : Nat) (l0_1 : List (S43)) (r : Int) (w : World) (hr0_1 : Kd.C k43 w A0_1 l0_1.length l0_1) (hc0_1 : l0_1.length ≤ c0_1) (h : signalbenchref46_Check.f k a0_0 l0_1 = some r) :
  Calls Try.prog 15 #[.agg #[.int .i64 a0_0, .slice A0_1 l0_1.length c0_1]] w fun e w' => e = .returned (.int .i64 r) ∧ Below w.heap.size w w' := by
 have hu27 := Try.underlying27
 have hu43 := Try.underlying43
 have HR0_1 := Aside0.mk hr0_1
 have HC0_1 := Aside0.mk hc0_1
 clear hr0_1 hc0_1
 have HB := Aside0.mk (Below.refl w.heap.size w)
 have H : (if a0_0 < 0 then (some 2) else (signalbenchref46_Check.l0 k (([] : List Int)) false 0 a0_0 l0_1)) = some r := h
 clear h
 by_cases c2 : a0_0 < 0
 ·
  rw [if_pos c2] at H
  have c2b0 : decide (a0_0 < 0) = true := decide_eq_true c2
  clear c2
  obtain rfl := Option.some.inj H
  go_enter Try.func15, Try.ntmps15
  go_wp2_with (first | ((with_reducible refine gate_dst (N := 1) rfl ?_); refine box_event ?hg (N := 1) ?hd (cs := #[.int .i64 a0_0, .slice A0_1 l0_1.length c0_1]) (t := 27) ?hr ?_; (case hd => rfl); (case hg => rfl); (case hr => first | (go_simp; done) | (go_simp; rfl)); intro gb172 hg w3 hbox hb; have n0_ := Aside0.mk (below_step (bs HB.out) hb); have n1_ := Aside0.mk (hbox); have n2_ := Aside0.mk ((by rw [hg]; exact (below_size (bs HB.out)) : w.heap.size ≤ gb172)); have n3_ := n2_; clear HB; have HB := n0_; have BK172 := n1_; have GW172 := n2_; have GE172 := n3_; clear n0_ n1_ n2_ n3_; clear hb hbox hg; obtain ⟨hcz4_0, hcz4_1⟩ := bc2 BK172.out; obtain ⟨hfz4_0, hfz4_1⟩ := bf2 BK172.out))
  go_ret
  exact ⟨by first | rfl | (simp [errW_none, errW_some] <;> rfl) | (simp [*, errW_none, errW_some] <;> rfl), bs HB.out⟩
 ·
  rw [if_neg c2] at H
  have c2b0 : decide (a0_0 < 0) = false := decide_eq_false c2
  clear c2
  obtain ⟨y173, hy173⟩ : ∃ y_ : List Int, y_ = (([] : List Int)) := ⟨_, rfl⟩
  replace H : (signalbenchref46_Check.l0 k y173 false 0 a0_0 l0_1) = some r := by first | (rw [hy173]; with_reducible exact H) | (have H2_ := (Option.bind_some _ _).symm.trans H; rw [hy173]; with_reducible exact H2_) | (have H2_ := (Option.bind_some _ _).symm.trans H; with_reducible exact H2_) | with_reducible exact H | (rw [hy173]; exact H) | exact H
  have Ny173 := Aside0.mk hy173
  clear hy173
  have H' := Aside0.mk H
  clear H
  go_enter Try.func15, Try.ntmps15
  go_wp2_with (first | ((with_reducible refine gate_dst (N := 1) rfl ?_); refine box_event ?hg (N := 1) ?hd (cs := #[.int .i64 a0_0, .slice A0_1 l0_1.length c0_1]) (t := 27) ?hr ?_; (case hd => rfl); (case hg => rfl); (case hr => first | (go_simp; done) | (go_simp; rfl)); intro gb172 hg w5 hbox hb; have n0_ := Aside0.mk (below_step (bs HB.out) hb); have n1_ := Aside0.mk (hbox); have n2_ := Aside0.mk ((by rw [hg]; exact (below_size (bs HB.out)) : w.heap.size ≤ gb172)); have n3_ := n2_; clear HB; have HB := n0_; have BK172 := n1_; have GW172 := n2_; have GE172 := n3_; clear n0_ n1_ n2_ n3_; clear hb hbox hg; obtain ⟨hcz6_0, hcz6_1⟩ := bc2 BK172.out; obtain ⟨hfz6_0, hfz6_1⟩ := bf2 BK172.out) | ((with_reducible refine gate_dst (N := 12) rfl ?_); refine Kd.R_lit (Kd.int .i64) _ 3 ?hg (N := 12) ?hd (xs := ([] : List Int)) (inner := []) (ok := fun _ => True) (okp := fun _ => True) ?hr ?hp (fun _ hk => hk) trivial (Below.refl _ _) (Nat.le_refl _) (by simp) ?_; (case hd => rfl); (case hg => rfl); (case hr => first | (go_simp; done) | (go_simp; rfl)); (case hp => exact (Reps.none _ _)); intro v174 w7 ho8 hb hg_ hnew_; clear hg_ hnew_; (first | rw [← Ny173.out] at ho8 | (simp only [Int.reduceToNat] at ho8; rw [← Ny173.out] at ho8)); have n0_ := Aside0.mk (Kd.R_lower ho8 (below_size (bs HB.out))); have n1_ := Aside0.mk (blk_below (bg BK172.out) hb); have n2_ := Aside0.mk (below_step (bs HB.out) hb); clear BK172; clear HB; have HO175 := n0_; have BK172 := n1_; have HB := n2_; clear n0_ n1_ n2_; clear hb ho8))
  go_loopg [3, 4, 5] k (fun kq v3 v4 v5 w' => ∃ (x3_1 : List Int) (x4_1 : Bool) (x5_1 : Int), v4 = .bool x4_1 ∧ v5 = .int .i64 x5_1 ∧ Aside0 (signalbenchref46_Check.l0 kq x3_1 x4_1 x5_1 a0_0 l0_1 = some r) ∧ Aside0 (kq ≤ k) ∧ Aside0 (Kd.R (Kd.int .i64) 3 w' w.heap.size (fun _ => True) v3 x3_1) ∧ Aside0 (w'.heap[gb172]? = some (.cells #[.int .i64 a0_0, (.slice A0_1 l0_1.length c0_1)] 27 (0, 0))) ∧ Aside0 (Below w.heap.size w w'))
  case atStart => exact ⟨(y173), (false), (0), (by first | rfl | (simp; done) | (simp [*]; done)), (by first | rfl | (simp; done) | (simp [*]; done)), H', ⟨Nat.le_refl _⟩, ⟨by (with_reducible repeat (first | apply Kd.R_alloc | apply Kd.R_drewN | apply Kd.R_drew)); exact HO175.out⟩, ⟨bg BK172.out⟩, ⟨bs HB.out⟩⟩
  case round =>
   clear H'
   try clear c1
   try clear c2
   try clear c2b0
   try clear p2
   try clear hcz4_0 hcz4_1
   try clear hcz6_0 hcz6_1
   try clear hfz4_0 hfz4_1
   try clear hfz6_0 hfz6_1
   obtain ⟨x3_1, x4_1, x5_1, rfl, rfl, HA, HK1, HO_3, BK172, HB⟩ := hrel
   cases gk with
   | zero => exact absurd HA.out (by simp [signalbenchref46_Check.l0])
   | succ k1 =>
    have H := HA.out
    clear HA
    simp only [signalbenchref46_Check.l0] at H
    by_cases c9 : x5_1 < (l0_1.length : Int)
    ·
     rw [if_pos c9] at H
     have c9b0 : decide (x5_1 < (l0_1.length : Int)) = true := decide_eq_true c9
     clear c9
     by_cases c10 : 0 ≤ x5_1
     ·
      rw [if_pos c10] at H
      have c10b0 : decide (0 ≤ x5_1) = true := decide_eq_true c10
      clear c10
      have HC11 := Aside0.mk H
      clear H
      obtain ⟨hcz12_0, hcz12_1⟩ := bc2 BK172.out
      obtain ⟨hfz12_0, hfz12_1⟩ := bf2 BK172.out
      have p176 : 0 ≤ (x5_1 : Int) := of_decide_eq_true (by first | (with_reducible assumption) | assumption)
      have q176 : x5_1 < (l0_1.length : Int) := of_decide_eq_true (by first | (with_reducible assumption) | assumption)
      obtain ⟨ad176, A176_2, c176_2, e176, hx176_0, hx176_1, hx176_2, hl176_2, hi176_2⟩ := at_T43 HR0_1.out x5_1 p176 q176
      cases e176
      replace hx176_0 := pw_cell_below HB.out hx176_0
      replace hx176_1 := pw_cell_below HB.out hx176_1
      replace hx176_2 := pw_cell_below HB.out hx176_2
      have HR176_2 := Aside0.mk hi176_2
      have HC176_2 := Aside0.mk hl176_2
      clear hi176_2 hl176_2
      replace p176 := eq_true p176
      replace q176 := eq_true q176
      go_upto_region 8 with (first | ((with_reducible refine gate_dst (N := 6) rfl ?_); refine box_event ?hg (N := 6) ?hd (cs := #[.int .i64 0, .int .i64 0, .slice none 0 0]) (t := 43) ?hr ?_; (case hd => rfl); (case hg => rfl); (case hr => first | (go_simp; done) | (go_simp; rfl)); intro gb177 hg w13 hbox hb; have n0_ := Aside0.mk (Kd.R_below (rq HO_3.out) hb); have n1_ := Aside0.mk (blk_below (bg BK172.out) hb); have n2_ := Aside0.mk (below_step (bs HB.out) hb); have n3_ := Aside0.mk (hbox); have n4_ := Aside0.mk ((by rw [hg]; exact (below_size (bs HB.out)) : w.heap.size ≤ gb177)); have n5_ := n4_; have n6_ := Aside0.mk ((by rw [hg]; exact Nat.ne_of_lt (blk_lt (bg BK172.out)) : gb172 ≠ gb177)); have n7_ := Aside0.mk ((by rw [hg]; exact Nat.ne_of_gt (blk_lt (bg BK172.out)) : gb177 ≠ gb172)); clear HO_3; clear BK172; clear HB; have HO_3 := n0_; have BK172 := n1_; have HB := n2_; have BK177 := n3_; have GW177 := n4_; have GE177 := n5_; have NB172_177 := n6_; have NB177_172 := n7_; clear n0_ n1_ n2_ n3_ n4_ n5_ n6_ n7_; clear hb hbox hg; have hnb14 := NB177_172.out; have hnc14 := NB172_177.out; obtain ⟨hcz15_0, hcz15_1, hcz15_2⟩ := bc3 BK177.out; obtain ⟨hfz15_0, hfz15_1, hfz15_2⟩ := bf3 BK177.out))
      (try simp only [Act.put, List.setIfInBounds_toArray, List.set_cons_zero, List.set_cons_succ])
      go_cut [40] (fun v40 wc => ∃ (kq : Nat) (x40_10 : Bool), v40 = .bool x40_10 ∧ Aside0 (signalbenchref46_Check.j1 kq x3_1 x4_1 x5_1 x40_10 a0_0 l0_1 ((rd_T43 l0_1 x5_1).f0) ((rd_T43 l0_1 x5_1).f1) ((rd_T43 l0_1 x5_1).f2) = some r) ∧ Aside0 (kq ≤ k1) ∧ Aside0 (Kd.R (Kd.int .i64) 3 wc w.heap.size (fun _ => True) u3 x3_1) ∧ Aside0 (wc.heap[gb172]? = some (.cells #[.int .i64 a0_0, (.slice (some ad176) l0_1.length c0_1)] 27 (0, 0))) ∧ Aside0 (wc.heap[gb177]? = some (.cells #[.int .i64 ((rd_T43 l0_1 x5_1).f0), .int .i64 ((rd_T43 l0_1 x5_1).f1), (.slice A176_2 ((rd_T43 l0_1 x5_1).f2).length c176_2)] 43 (0, 0))) ∧ Aside0 (Below w.heap.size w wc))
      case first =>
       have H := HC11.out
       clear HC11
       by_cases c16 : x5_1 > 0
       ·
        rw [if_pos c16] at H
        have c16b0 : decide (0 < x5_1) = true := decide_eq_true c16
        clear c16
        (first | rw [c16b0] | (simp only [i64_w, i32_w]; rw [c16b0]) | skip)
        obtain ⟨ji17, hji17⟩ : ∃ j_ : Int, (wrap64 (x5_1 - 1)) = j_ := ⟨_, rfl⟩
        replace H : (if 0 ≤ (ji17) then (if (ji17) < (l0_1.length : Int) then ((signalbenchref46_before.f ((rd_T43 l0_1 (ji17)).f0) ((rd_T43 l0_1 (ji17)).f1) ((rd_T43 l0_1 (ji17)).f2) ((rd_T43 l0_1 x5_1).f0) ((rd_T43 l0_1 x5_1).f1)).bind fun t179 => (signalbenchref46_Check.j1 k1 x3_1 x4_1 x5_1 (!t179) a0_0 l0_1 ((rd_T43 l0_1 x5_1).f0) ((rd_T43 l0_1 x5_1).f1) ((rd_T43 l0_1 x5_1).f2))) else (none)) else (none)) = some r := by first | (rw [hji17] at H; exact H) | (simp only [hji17] at H ⊢; exact H)
        have hji17w : (IntKind.i64.wrap (x5_1 - 1)) = ji17 := (i64_w _).trans hji17
        by_cases c18 : 0 ≤ (ji17)
        ·
         rw [if_pos c18] at H
         have c18b0 : decide (0 ≤ (ji17)) = true := decide_eq_true c18
         clear c18
         by_cases c19 : (ji17) < (l0_1.length : Int)
         ·
          rw [if_pos c19] at H
          have c19b0 : decide ((ji17) < (l0_1.length : Int)) = true := decide_eq_true c19
          clear c19
          replace H := Option.bind_eq_some_iff.mp H
          obtain ⟨t179, A200, H⟩ := H
          replace H : (signalbenchref46_Check.j1 k1 x3_1 x4_1 x5_1 (!t179) a0_0 l0_1 ((rd_T43 l0_1 x5_1).f0) ((rd_T43 l0_1 x5_1).f1) ((rd_T43 l0_1 x5_1).f2)) = some r := H
          have A20 := Aside0.mk A200
          clear A200
          have H' := Aside0.mk H
          clear H
          try go_wp2
          have n0_ : Aside0 (Kd.R (Kd.int .i64) 3 (((w13.setCell ⟨gb177, 0, none⟩ (.int .i64 ((rd_T43 l0_1 x5_1).f0))).setCell ⟨gb177, 1, none⟩ (.int .i64 ((rd_T43 l0_1 x5_1).f1))).setCell ⟨gb177, 2, none⟩ (.slice A176_2 ((rd_T43 l0_1 x5_1).f2).length c176_2)) w.heap.size (fun _ => True) u3 x3_1) := ⟨by (with_reducible repeat (first | apply Kd.R_alloc | apply Kd.R_drewN | apply Kd.R_drew)); exact Kd.R_mono (Kd.R_far (p := ⟨gb177, 2, none⟩) (Kd.R_far (p := ⟨gb177, 1, none⟩) (Kd.R_far (p := ⟨gb177, 0, none⟩) (Kd.R_types HO_3.out BK177.out (by decide)) (fun _ hk => hk.2) (.int .i64 ((rd_T43 l0_1 x5_1).f0))) (fun _ hk => hk.2) (.int .i64 ((rd_T43 l0_1 x5_1).f1))) (fun _ hk => hk.2) (.slice A176_2 ((rd_T43 l0_1 x5_1).f2).length c176_2)) (fun _ hk => trivial)⟩
          have n1_ : Aside0 ((((w13.setCell ⟨gb177, 0, none⟩ (.int .i64 ((rd_T43 l0_1 x5_1).f0))).setCell ⟨gb177, 1, none⟩ (.int .i64 ((rd_T43 l0_1 x5_1).f1))).setCell ⟨gb177, 2, none⟩ (.slice A176_2 ((rd_T43 l0_1 x5_1).f2).length c176_2)).heap[gb172]? = some (.cells #[.int .i64 a0_0, .slice (some ad176) l0_1.length c0_1] 27 (0, 0))) := ⟨by (iterate 3 (with_reducible repeat (first | refine blk_drewN ?_ _ | refine blk_drew ?_ | refine blk_alloc ?_ _)); refine blk_far ?_ NB172_177.out _); exact bg BK172.out⟩
          have n2_ : Aside0 ((((w13.setCell ⟨gb177, 0, none⟩ (.int .i64 ((rd_T43 l0_1 x5_1).f0))).setCell ⟨gb177, 1, none⟩ (.int .i64 ((rd_T43 l0_1 x5_1).f1))).setCell ⟨gb177, 2, none⟩ (.slice A176_2 ((rd_T43 l0_1 x5_1).f2).length c176_2)).heap[gb177]? = some (.cells #[.int .i64 ((rd_T43 l0_1 x5_1).f0), .int .i64 ((rd_T43 l0_1 x5_1).f1), .slice A176_2 ((rd_T43 l0_1 x5_1).f2).length c176_2] 43 (0, 0))) := ⟨by exact pt3 (bg BK177.out)⟩
          have n3_ : Aside0 (Below w.heap.size w (((w13.setCell ⟨gb177, 0, none⟩ (.int .i64 ((rd_T43 l0_1 x5_1).f0))).setCell ⟨gb177, 1, none⟩ (.int .i64 ((rd_T43 l0_1 x5_1).f1))).setCell ⟨gb177, 2, none⟩ (.slice A176_2 ((rd_T43 l0_1 x5_1).f2).length c176_2))) := ⟨bs HB.out⟩
          (try clear HO_3)
          (try clear BK172)
          (try clear BK177)
          (try clear HB)
          generalize (((w13.setCell ⟨gb177, 0, none⟩ (.int .i64 ((rd_T43 l0_1 x5_1).f0))).setCell ⟨gb177, 1, none⟩ (.int .i64 ((rd_T43 l0_1 x5_1).f1))).setCell ⟨gb177, 2, none⟩ (.slice A176_2 ((rd_T43 l0_1 x5_1).f2).length c176_2)) = w21 at n0_ n1_ n2_ n3_ ⊢
          have HO_3 := n0_
          have BK172 := n1_
          have BK177 := n2_
          have HB := n3_
          clear n0_ n1_ n2_ n3_
          have n0_ := Aside0.mk (Kd.R_drew HO_3.out)
          have n1_ := Aside0.mk (blk_drew BK172.out)
          have n2_ := Aside0.mk (blk_drew BK177.out)
          have n3_ := Aside0.mk (below_drew1 HB.out)
          clear HO_3
          clear BK172
          clear BK177
          clear HB
          have HO_3 := n0_
          have BK172 := n1_
          have BK177 := n2_
          have HB := n3_
          clear n0_ n1_ n2_ n3_
          have p178 : 0 ≤ ((ji17) : Int) := of_decide_eq_true (by first | (with_reducible assumption) | assumption)
          have q178 : (ji17) < (l0_1.length : Int) := of_decide_eq_true (by first | (with_reducible assumption) | assumption)
          obtain ⟨ad178, A178_2, c178_2, e178, hx178_0, hx178_1, hx178_2, hl178_2, hi178_2⟩ := at_T43 HR0_1.out (ji17) p178 q178
          have hw178_2 := hx178_2
          have hw178_1 := hx178_1
          have hw178_0 := hx178_0
          obtain rfl : ad176 = ad178 := (by injection e178)
          replace hx178_0 := pw_cell_below HB.out hx178_0
          replace hx178_1 := pw_cell_below HB.out hx178_1
          replace hx178_2 := pw_cell_below HB.out hx178_2
          have HR178_2 := Aside0.mk hi178_2
          have HC178_2 := Aside0.mk hl178_2
          clear hi178_2 hl178_2
          replace p178 := eq_true p178
          replace q178 := eq_true q178
          refine start_ (n := 16) (S := fun w' => w'.cell? ⟨gb172, 0, none⟩ = some (.int .i64 a0_0) ∧ w'.cell? ⟨gb172, 1, none⟩ = some (.slice (some ad176) l0_1.length c0_1) ∧ w'.cell? ⟨gb177, 0, none⟩ = some (.int .i64 ((rd_T43 l0_1 x5_1).f0)) ∧ w'.cell? ⟨gb177, 1, none⟩ = some (.int .i64 ((rd_T43 l0_1 x5_1).f1)) ∧ w'.cell? ⟨gb177, 2, none⟩ = some (.slice A176_2 ((rd_T43 l0_1 x5_1).f2).length c176_2) ∧ w'.cell? (ad176.add (((ji17)).toNat * 3)) = some (.int .i64 ((rd_T43 l0_1 (ji17)).f0)) ∧ w'.cell? ⟨(ad176.add (((ji17)).toNat * 3)).block, (ad176.add (((ji17)).toNat * 3)).off + 1, none⟩ = some (.int .i64 ((rd_T43 l0_1 (ji17)).f1)) ∧ w'.cell? ⟨(ad176.add (((ji17)).toNat * 3)).block, (ad176.add (((ji17)).toNat * 3)).off + 2, none⟩ = some (.slice A178_2 ((rd_T43 l0_1 (ji17)).f2).length c178_2)) (ds := []) (bsq 0 16) (by kernel_rfl) rfl rfl ⟨(blk_cell BK172.out 0).trans rfl, (blk_cell BK172.out 1).trans rfl, (blk_cell BK177.out 0).trans rfl, (blk_cell BK177.out 1).trans rfl, (blk_cell BK177.out 2).trans rfl, ((HB.out.cell (World.block_lt_of_cell? w _ hw178_0)).trans hw178_0), ((HB.out.cell (World.block_lt_of_cell? w _ hw178_1)).trans hw178_1), ((HB.out.cell (World.block_lt_of_cell? w _ hw178_2)).trans hw178_2)⟩ (fun hHeld => ?_); refine with_tabW signalbenchref46_Check.tab8 signalbenchref46_Check.bits8 (fun HT_ HW_ => ?_)
          generalize w21.drew = w22 at HO_3 BK172 BK177 HB HR178_2 hx178_0 hx178_1 hx178_2 hHeld ⊢
          refine pu 0 25 (bsq 1 15) ?_
          refine pu 1 26 (bsq 2 14) ?_
          refine pu 2 27 (bsq 3 13) ?_
          refine pu 3 28 (bsq 4 12) ?_
          refine pu 5 30 (bls [4, 1, 1, 10]) ?_
          refine pu 6 31 (bls [4, 1, 2, 9]) ?_
          refine pu 9 34 (bls [4, 1, 2, 2, 1, 6]) ?_
          refine pu 11 36 (bls [4, 1, 2, 2, 1, 1, 1, 4]) ?_
          refine tk 4 29 (bls [7, 2, 1, 1, 1, 4]) hHeld ?_ (he := by rintro w' ⟨s0, s1, s2, s3, s4, s5, s6, s7⟩; go_simp; with_reducible rfl)
          refine pu 7 32 (bls [8, 1, 1, 1, 1, 4]) ?_
          refine tk 8 33 (bls [10, 1, 1, 4]) hHeld ?_ (he := by rintro w' ⟨s0, s1, s2, s3, s4, s5, s6, s7⟩; go_simp; with_reducible rfl)
          refine tk 10 35 (bsq 12 4) hHeld ?_ (he := by rintro w' ⟨s0, s1, s2, s3, s4, s5, s6, s7⟩; go_simp; with_reducible rfl)
          refine tk 12 37 (bsq 13 3) hHeld ?_ (he := by rintro w' ⟨s0, s1, s2, s3, s4, s5, s6, s7⟩; go_simp; with_reducible rfl)
          refine one_ (i := 13) (N := some 38) (bsq 14 2) rfl rfl (one_of HT_.out (by kernel_rfl)) (by decide) (fun K hK => ?_)
          refine goes_ Try.func27 (by kernel_rfl) rfl #[.agg #[.int .i64 ((rd_T43 l0_1 (ji17)).f0), .int .i64 ((rd_T43 l0_1 (ji17)).f1), .slice A178_2 ((rd_T43 l0_1 (ji17)).f2).length c178_2], .int .i64 ((rd_T43 l0_1 x5_1).f0), .int .i64 ((rd_T43 l0_1 x5_1).f1)] (by rfl) rfl rfl (by (try simp only [List.map_toArray, List.map_cons, List.map_nil]); first | done | (simp only [hji17]; rfl) | rfl | (simp only [List.length_drop, List.length_take]; rfl)) ?_
          with_reducible refine (signalbenchref46_before.calls ((rd_T43 l0_1 (ji17)).f0) ((rd_T43 l0_1 (ji17)).f1) _ _ ((rd_T43 l0_1 (ji17)).f2) ((rd_T43 l0_1 x5_1).f0) ((rd_T43 l0_1 x5_1).f1) t179 _ ?side1 ?side2 A20.out).mono ?_
          (case side1 => repeat (first | exact (Kd.C_below HR178_2.out HB.out) | (with_reducible refine Kd.C_alloc ?_ _) | (with_reducible refine Kd.C_drewN ?_ _) | (with_reducible refine Kd.C_drew ?_)))
          (case side2 => exact HC178_2.out)
          rintro e w23 ⟨rfl, hb⟩
          refine ⟨_, rfl, ?_⟩
          have n0_ := Aside0.mk (Kd.R_below (rq HO_3.out) hb)
          have n1_ := Aside0.mk (blk_below (bg BK172.out) hb)
          have n2_ := Aside0.mk (blk_below (bg BK177.out) hb)
          have n3_ := Aside0.mk (below_step (bs HB.out) hb)
          clear HO_3
          clear BK172
          clear BK177
          clear HB
          have HO_3 := n0_
          have BK172 := n1_
          have BK177 := n2_
          have HB := n3_
          clear n0_ n1_ n2_ n3_
          (try clear hb)
          (try clear hb2)
          (try clear hk)
          (try clear hi)
          refine hK.out _ _ ⟨(blk_cell BK172.out 0).trans rfl, (blk_cell BK172.out 1).trans rfl, (blk_cell BK177.out 0).trans rfl, (blk_cell BK177.out 1).trans rfl, (blk_cell BK177.out 2).trans rfl, ((HB.out.cell (World.block_lt_of_cell? w _ hw178_0)).trans hw178_0), ((HB.out.cell (World.block_lt_of_cell? w _ hw178_1)).trans hw178_1), ((HB.out.cell (World.block_lt_of_cell? w _ hw178_2)).trans hw178_2)⟩ (fun hHeld => ?_)
          clear hK K
          refine norm_ (a' := ?_) ?_ ?_
          rotate_left
          ·
           show Act.put _ (some 38) _ = _
           simp only [Act.put, List.setIfInBounds_toArray, List.set_cons_zero, List.set_cons_succ, i64_w, i32_w]
           rfl
          refine pu 14 39 (bsq 15 1) ?_
          refine pu 15 40 (bsq 16 0) ?_
          refine done_ (done_of HT_.out (by kernel_rfl)) ?_
          try go_wp2
          go_meet
          case rel => exact ⟨_, (!t179), (by first | rfl | (simp; done) | (simp [*]; done)), H', ⟨by have := HK1.out; first | omega | exact Nat.le_refl _⟩, ⟨by (with_reducible repeat (first | apply Kd.R_alloc | apply Kd.R_drewN | apply Kd.R_drew)); exact HO_3.out⟩, ⟨bg BK172.out⟩, ⟨bg BK177.out⟩, ⟨bs HB.out⟩⟩
         ·
          rw [if_neg c19] at H
          exact absurd H (by simp)
        ·
         rw [if_neg c18] at H
         exact absurd H (by simp)
       ·
        rw [if_neg c16] at H
        have c16b0 : decide (0 < x5_1) = false := decide_eq_false c16
        clear c16
        (first | rw [c16b0] | (simp only [i64_w, i32_w]; rw [c16b0]) | skip)
        have H' := Aside0.mk H
        clear H
        try go_wp2
        have n0_ : Aside0 (Kd.R (Kd.int .i64) 3 (((w13.setCell ⟨gb177, 0, none⟩ (.int .i64 ((rd_T43 l0_1 x5_1).f0))).setCell ⟨gb177, 1, none⟩ (.int .i64 ((rd_T43 l0_1 x5_1).f1))).setCell ⟨gb177, 2, none⟩ (.slice A176_2 ((rd_T43 l0_1 x5_1).f2).length c176_2)) w.heap.size (fun _ => True) u3 x3_1) := ⟨by (with_reducible repeat (first | apply Kd.R_alloc | apply Kd.R_drewN | apply Kd.R_drew)); exact Kd.R_mono (Kd.R_far (p := ⟨gb177, 2, none⟩) (Kd.R_far (p := ⟨gb177, 1, none⟩) (Kd.R_far (p := ⟨gb177, 0, none⟩) (Kd.R_types HO_3.out BK177.out (by decide)) (fun _ hk => hk.2) (.int .i64 ((rd_T43 l0_1 x5_1).f0))) (fun _ hk => hk.2) (.int .i64 ((rd_T43 l0_1 x5_1).f1))) (fun _ hk => hk.2) (.slice A176_2 ((rd_T43 l0_1 x5_1).f2).length c176_2)) (fun _ hk => trivial)⟩
        have n1_ : Aside0 ((((w13.setCell ⟨gb177, 0, none⟩ (.int .i64 ((rd_T43 l0_1 x5_1).f0))).setCell ⟨gb177, 1, none⟩ (.int .i64 ((rd_T43 l0_1 x5_1).f1))).setCell ⟨gb177, 2, none⟩ (.slice A176_2 ((rd_T43 l0_1 x5_1).f2).length c176_2)).heap[gb172]? = some (.cells #[.int .i64 a0_0, .slice (some ad176) l0_1.length c0_1] 27 (0, 0))) := ⟨by (iterate 3 (with_reducible repeat (first | refine blk_drewN ?_ _ | refine blk_drew ?_ | refine blk_alloc ?_ _)); refine blk_far ?_ NB172_177.out _); exact bg BK172.out⟩
        have n2_ : Aside0 ((((w13.setCell ⟨gb177, 0, none⟩ (.int .i64 ((rd_T43 l0_1 x5_1).f0))).setCell ⟨gb177, 1, none⟩ (.int .i64 ((rd_T43 l0_1 x5_1).f1))).setCell ⟨gb177, 2, none⟩ (.slice A176_2 ((rd_T43 l0_1 x5_1).f2).length c176_2)).heap[gb177]? = some (.cells #[.int .i64 ((rd_T43 l0_1 x5_1).f0), .int .i64 ((rd_T43 l0_1 x5_1).f1), .slice A176_2 ((rd_T43 l0_1 x5_1).f2).length c176_2] 43 (0, 0))) := ⟨by exact pt3 (bg BK177.out)⟩
        have n3_ : Aside0 (Below w.heap.size w (((w13.setCell ⟨gb177, 0, none⟩ (.int .i64 ((rd_T43 l0_1 x5_1).f0))).setCell ⟨gb177, 1, none⟩ (.int .i64 ((rd_T43 l0_1 x5_1).f1))).setCell ⟨gb177, 2, none⟩ (.slice A176_2 ((rd_T43 l0_1 x5_1).f2).length c176_2))) := ⟨bs HB.out⟩
        (try clear HO_3)
        (try clear BK172)
        (try clear BK177)
        (try clear HB)
        generalize (((w13.setCell ⟨gb177, 0, none⟩ (.int .i64 ((rd_T43 l0_1 x5_1).f0))).setCell ⟨gb177, 1, none⟩ (.int .i64 ((rd_T43 l0_1 x5_1).f1))).setCell ⟨gb177, 2, none⟩ (.slice A176_2 ((rd_T43 l0_1 x5_1).f2).length c176_2)) = w24 at n0_ n1_ n2_ n3_ ⊢
        have HO_3 := n0_
        have BK172 := n1_
        have BK177 := n2_
        have HB := n3_
        clear n0_ n1_ n2_ n3_
        have n0_ := Aside0.mk (Kd.R_drew HO_3.out)
        have n1_ := Aside0.mk (blk_drew BK172.out)
        have n2_ := Aside0.mk (blk_drew BK177.out)
        have n3_ := Aside0.mk (below_drew1 HB.out)
        clear HO_3
        clear BK172
        clear BK177
        clear HB
        have HO_3 := n0_
        have BK172 := n1_
        have BK177 := n2_
        have HB := n3_
        clear n0_ n1_ n2_ n3_
        refine start_ (n := 16) (S := fun w' => True) (ds := []) (bsq 0 16) (by kernel_rfl) rfl rfl trivial (fun hHeld => ?_); refine with_tabW signalbenchref46_Check.tab8 signalbenchref46_Check.bits8 (fun HT_ HW_ => ?_)
        generalize w24.drew = w25 at HO_3 BK172 BK177 HB hHeld ⊢
        refine pu 0 25 (bsq 1 15) ?_
        refine pu 1 26 (bsq 2 14) ?_
        refine pu 2 27 (bsq 3 13) ?_
        refine un 3 28 (bsq 4 12) ?_
        refine un 4 29 (bsq 5 11) ?_
        refine un 5 30 (bsq 6 10) ?_
        refine un 6 31 (bsq 7 9) ?_
        refine un 7 32 (bsq 8 8) ?_
        refine un 8 33 (bsq 9 7) ?_
        refine un 9 34 (bsq 10 6) ?_
        refine un 10 35 (bsq 11 5) ?_
        refine un 11 36 (bsq 12 4) ?_
        refine un 12 37 (bsq 13 3) ?_
        refine un 13 38 (bsq 14 2) ?_
        refine un 14 39 (bsq 15 1) ?_
        refine pu 15 40 (bsq 16 0) ?_
        refine done_ (done_of HT_.out (by kernel_rfl)) ?_
        try go_wp2
        go_meet
        case rel => exact ⟨_, (false), (by first | rfl | (simp; done) | (simp [*]; done)), H', ⟨by have := HK1.out; first | omega | exact Nat.le_refl _⟩, ⟨by (with_reducible repeat (first | apply Kd.R_alloc | apply Kd.R_drewN | apply Kd.R_drew)); exact HO_3.out⟩, ⟨bg BK172.out⟩, ⟨bg BK177.out⟩, ⟨bs HB.out⟩⟩
      case rest =>
       clear HC11
       try clear c1
       try clear p1
       try clear q1
       try clear hx1
       try clear c2
       try clear c2b0
       try clear p2
       try clear p6
       try clear c9
       try clear c9b0
       try clear c10
       try clear c10b0
       try clear c14
       try clear c15
       try clear c16
       try clear c16b0
       try clear c17
       try clear p17
       try clear q17
       try clear hx17
       try clear c18
       try clear c18b0
       try clear c19
       try clear c19b0
       try clear hcz12_0 hcz12_1
       try clear hcz15_0 hcz15_1 hcz15_2
       try clear hcz4_0 hcz4_1
       try clear hcz6_0 hcz6_1
       try clear hfz12_0 hfz12_1
       try clear hfz15_0 hfz15_1 hfz15_2
       try clear hfz4_0 hfz4_1
       try clear hfz6_0 hfz6_1
       try clear hx176_0
       try clear hx176_1
       try clear hx176_2
       try clear hx178_0
       try clear hx178_1
       try clear hx178_2
       try clear p176
       try clear p178
       try clear p2
       try clear q176
       try clear q178
       obtain ⟨kq, x40_10, rfl, HA, HJ10, HO_3, BK172, BK177, HB⟩ := hcut
       cases kq with
       | zero => exact absurd HA.out (by simp [signalbenchref46_Check.j1])
       | succ kj10 =>
        have H := HA.out
        clear HA
        simp only [signalbenchref46_Check.j1] at H
        by_cases c26 : x40_10 = true
        ·
         subst c26
         have H1 : (some 7) = some r := by rw [if_pos rfl] at H; exact H
         clear H
         have H := H1
         clear H1
         obtain rfl := Option.some.inj H
         go_wp2
         go_ret
         exact ⟨by first | rfl | (simp [errW_none, errW_some] <;> rfl) | (simp [*, errW_none, errW_some] <;> rfl), bs HB.out⟩
        ·
         replace c26 := Bool.eq_false_iff.mpr c26
         subst c26
         have H1 : ((signalbenchref46_wrongPlaces.f kj10 ((rd_T43 l0_1 x5_1).f2) a0_0).bind fun t180 => (if t180 = 0 then (signalbenchref46_Check.l1 kj10 x3_1 x4_1 x5_1 0 a0_0 l0_1 ((rd_T43 l0_1 x5_1).f0) ((rd_T43 l0_1 x5_1).f1) ((rd_T43 l0_1 x5_1).f2)) else (some t180))) = some r := by rw [if_neg (show ¬ (false = true) by decide)] at H; exact H
         clear H
         have H := H1
         clear H1
         replace H := Option.bind_eq_some_iff.mp H
         obtain ⟨t180, A270, H⟩ := H
         replace H : (if t180 = 0 then (signalbenchref46_Check.l1 kj10 x3_1 x4_1 x5_1 0 a0_0 l0_1 ((rd_T43 l0_1 x5_1).f0) ((rd_T43 l0_1 x5_1).f1) ((rd_T43 l0_1 x5_1).f2)) else (some t180)) = some r := H
         have A27 := Aside0.mk A270
         clear A270
         by_cases c28 : t180 = 0
         ·
          rw [if_pos c28] at H
          have c28b0 : (t180 == 0) = true := beq_iff_eq.mpr c28
          have c28b1 : (t180 != 0) = false := bne_eq_false_iff_eq.mpr c28
          clear c28
          have H' := Aside0.mk H
          clear H
          have hnb29 := NB177_172.out
          have hnc29 := NB172_177.out
          obtain ⟨hcz30_0, hcz30_1, hcz30_2⟩ := bc3 BK177.out
          obtain ⟨hfz30_0, hfz30_1, hfz30_2⟩ := bf3 BK177.out
          obtain ⟨hcz31_0, hcz31_1⟩ := bc2 BK172.out
          obtain ⟨hfz31_0, hfz31_1⟩ := bf2 BK172.out
          go_wp2_with (first | ((with_reducible refine gate_callee (f := 28) rfl ?_); refine goesL_ (some 45) rfl rfl Try.func28 (by kernel_rfl) rfl #[.slice A176_2 ((rd_T43 l0_1 x5_1).f2).length c176_2, .int .i64 a0_0] rfl (by (try simp only [List.map_toArray, List.map_cons, List.map_nil]); first | done | rfl | (simp only [List.length_drop, List.length_take]; rfl)) ?_; (with_reducible refine (signalbenchref46_wrongPlaces.calls kj10 _ _ ((rd_T43 l0_1 x5_1).f2) a0_0 t180 _ ?side1 ?side2 A27.out).mono ?_); (case side1 => repeat (first | exact (Kd.C_below HR176_2.out HB.out) | (with_reducible refine Kd.C_alloc ?_ _) | (with_reducible refine Kd.C_drewN ?_ _) | (with_reducible refine Kd.C_drew ?_))); (case side2 => exact HC176_2.out); rintro e w' ⟨rfl, ⟨nd, rfl⟩⟩; refine ⟨_, rfl, ?_⟩))
          go_loopg [4, 8] kj10 (fun kq v4 v8 w' => ∃ (x4_3 : Bool) (x8_3 : Int), v4 = .bool x4_3 ∧ v8 = .int .i64 x8_3 ∧ Aside0 (signalbenchref46_Check.l1 kq x3_1 x4_3 x5_1 x8_3 a0_0 l0_1 ((rd_T43 l0_1 x5_1).f0) ((rd_T43 l0_1 x5_1).f1) ((rd_T43 l0_1 x5_1).f2) = some r) ∧ Aside0 (kq ≤ kj10) ∧ Aside0 (Kd.R (Kd.int .i64) 3 w' w.heap.size (fun _ => True) u3 x3_1) ∧ Aside0 (w'.heap[gb172]? = some (.cells #[.int .i64 a0_0, (.slice (some ad176) l0_1.length c0_1)] 27 (0, 0))) ∧ Aside0 (w'.heap[gb177]? = some (.cells #[.int .i64 ((rd_T43 l0_1 x5_1).f0), .int .i64 ((rd_T43 l0_1 x5_1).f1), (.slice A176_2 ((rd_T43 l0_1 x5_1).f2).length c176_2)] 43 (0, 0))) ∧ Aside0 (Below w.heap.size w w'))
          case atStart => exact ⟨(x4_1), (0), (by first | rfl | (simp; done) | (simp [*]; done)), (by first | rfl | (simp; done) | (simp [*]; done)), H', ⟨Nat.le_refl _⟩, ⟨by (with_reducible repeat (first | apply Kd.R_alloc | apply Kd.R_drewN | apply Kd.R_drew)); exact HO_3.out⟩, ⟨bg BK172.out⟩, ⟨bg BK177.out⟩, ⟨bs HB.out⟩⟩
          case round =>
           clear H'
           try clear c1
           try clear p1
           try clear q1
           try clear hx1
           try clear c2
           try clear c2b0
           try clear p2
           try clear p6
           try clear c9
           try clear c9b0
           try clear c10
           try clear c10b0
           try clear c14
           try clear c15
           try clear c16
           try clear c16b0
           try clear c17
           try clear p17
           try clear q17
           try clear hx17
           try clear c18
           try clear c18b0
           try clear c19
           try clear c19b0
           try clear c26
           try clear c27
           try clear c28
           try clear c28b0
           try clear c28b1
           try clear c29
           try clear hcz12_0 hcz12_1
           try clear hcz15_0 hcz15_1 hcz15_2
           try clear hcz30_0 hcz30_1 hcz30_2
           try clear hcz31_0 hcz31_1
           try clear hcz4_0 hcz4_1
           try clear hcz6_0 hcz6_1
           try clear hfz12_0 hfz12_1
           try clear hfz15_0 hfz15_1 hfz15_2
           try clear hfz30_0 hfz30_1 hfz30_2
           try clear hfz31_0 hfz31_1
           try clear hfz4_0 hfz4_1
           try clear hfz6_0 hfz6_1
           try clear hx176_0
           try clear hx176_1
           try clear hx176_2
           try clear hx178_0
           try clear hx178_1
           try clear hx178_2
           try clear p1
           try clear p17
           try clear p176
           try clear p178
           try clear p2
           try clear p6
           try clear q1
           try clear q17
           try clear q176
           try clear q178
           obtain ⟨x4_3, x8_3, rfl, rfl, HA, HK3, HO_3, BK172, BK177, HB⟩ := hrel
           cases gk with
           | zero => exact absurd HA.out (by simp [signalbenchref46_Check.l1])
           | succ k3 =>
            have H := HA.out
            clear HA
            simp only [signalbenchref46_Check.l1] at H
            by_cases c32 : x8_3 < (((rd_T43 l0_1 x5_1).f2).length : Int)
            ·
             rw [if_pos c32] at H
             have c32b0 : decide (x8_3 < (((rd_T43 l0_1 x5_1).f2).length : Int)) = true := decide_eq_true c32
             clear c32
             by_cases c33 : x4_3 = true
             ·
              subst c33
              have H1 : (signalbenchref46_Check.l1 k3 x3_1 true x5_1 (wrap64 (x8_3 + 1)) a0_0 l0_1 ((rd_T43 l0_1 x5_1).f0) ((rd_T43 l0_1 x5_1).f1) ((rd_T43 l0_1 x5_1).f2)) = some r := by rw [if_pos rfl] at H; exact H
              clear H
              have H := H1
              clear H1
              have H' := Aside0.mk H
              clear H
              have hnb34 := NB177_172.out
              have hnc34 := NB172_177.out
              obtain ⟨hcz35_0, hcz35_1, hcz35_2⟩ := bc3 BK177.out
              obtain ⟨hfz35_0, hfz35_1, hfz35_2⟩ := bf3 BK177.out
              go_wp2
              go_roundg k3
              case measure => have := HK1.out; have := HJ10.out; have := HK3.out; omega
              case rel => exact ⟨(true), (wrap64 (x8_3 + 1)), (by first | rfl | (simp; done) | (simp [*]; done)), (by first | rfl | (simp; done) | (simp [*]; done)), H', ⟨by have := HK1.out; have := HJ10.out; have := HK3.out; omega⟩, ⟨by (with_reducible repeat (first | apply Kd.R_alloc | apply Kd.R_drewN | apply Kd.R_drew)); exact HO_3.out⟩, ⟨bg BK172.out⟩, ⟨bg BK177.out⟩, ⟨bs HB.out⟩⟩
             ·
              replace c33 := Bool.eq_false_iff.mpr c33
              subst c33
              have H1 : (if 0 ≤ x8_3 then ((signalbenchref46_has.f k3 x3_1 (rd ((rd_T43 l0_1 x5_1).f2) x8_3)).bind fun t182 => (signalbenchref46_Check.l1 k3 x3_1 t182 x5_1 (wrap64 (x8_3 + 1)) a0_0 l0_1 ((rd_T43 l0_1 x5_1).f0) ((rd_T43 l0_1 x5_1).f1) ((rd_T43 l0_1 x5_1).f2))) else (none)) = some r := by rw [if_neg (show ¬ (false = true) by decide)] at H; exact H
              clear H
              have H := H1
              clear H1
              by_cases c36 : 0 ≤ x8_3
              ·
               rw [if_pos c36] at H
               have c36b0 : decide (0 ≤ x8_3) = true := decide_eq_true c36
               clear c36
               replace H := Option.bind_eq_some_iff.mp H
               obtain ⟨t182, A370, H⟩ := H
               replace H : (signalbenchref46_Check.l1 k3 x3_1 t182 x5_1 (wrap64 (x8_3 + 1)) a0_0 l0_1 ((rd_T43 l0_1 x5_1).f0) ((rd_T43 l0_1 x5_1).f1) ((rd_T43 l0_1 x5_1).f2)) = some r := H
               have A37 := Aside0.mk A370
               clear A370
               have H' := Aside0.mk H
               clear H
               have hnb38 := NB177_172.out
               have hnc38 := NB172_177.out
               obtain ⟨hcz39_0, hcz39_1, hcz39_2⟩ := bc3 BK177.out
               obtain ⟨hfz39_0, hfz39_1, hfz39_2⟩ := bf3 BK177.out
               have p181 : 0 ≤ (x8_3 : Int) := of_decide_eq_true (by first | (with_reducible assumption) | assumption)
               have q181 : x8_3 < (((rd_T43 l0_1 x5_1).f2).length : Int) := of_decide_eq_true (by first | (with_reducible assumption) | assumption)
               obtain ⟨ad181, e181, hx181_0⟩ := Kd.at_int HR176_2.out x8_3 p181 q181
               cases e181
               replace hx181_0 := pw_cell_below HB.out hx181_0
               replace p181 := eq_true p181
               replace q181 := eq_true q181
               obtain ⟨Ao40, co40, eo40⟩ := Kd.R_slice HO_3.out
               subst eo40
               go_wp2_with (first | (go_at_call 29; (with_reducible refine (signalbenchref46_has.calls k3 _ _ x3_1 (rd ((rd_T43 l0_1 x5_1).f2) x8_3) t182 _ ?side1 ?side2 A37.out).mono ?_); (case side1 => repeat (first | exact (Kd.R_reads' HO_3.out).2.2 | (with_reducible refine Kd.C_alloc ?_ _) | (with_reducible refine Kd.C_drewN ?_ _) | (with_reducible refine Kd.C_drew ?_))); (case side2 => exact (Kd.R_reads' HO_3.out).2.1); rintro e w' ⟨rfl, ⟨nd, rfl⟩⟩))
               go_roundg k3
               case measure => have := HK1.out; have := HJ10.out; have := HK3.out; omega
               case rel => exact ⟨(t182), (wrap64 (x8_3 + 1)), (by first | rfl | (simp; done) | (simp [*]; done)), (by first | rfl | (simp; done) | (simp [*]; done)), H', ⟨by have := HK1.out; have := HJ10.out; have := HK3.out; omega⟩, ⟨by (with_reducible repeat (first | apply Kd.R_alloc | apply Kd.R_drewN | apply Kd.R_drew)); exact HO_3.out⟩, ⟨bg BK172.out⟩, ⟨bg BK177.out⟩, ⟨bs HB.out⟩⟩
              ·
               rw [if_neg c36] at H
               exact absurd H (by simp)
            ·
             rw [if_neg c32] at H
             have c32b0 : decide (x8_3 < (((rd_T43 l0_1 x5_1).f2).length : Int)) = false := decide_eq_false c32
             clear c32
             by_cases c41 : x3_1.length + ((rd_T43 l0_1 x5_1).f2).length < 17592186044416
             ·
              rw [if_pos c41] at H
              have LMc41 := Aside0.mk c41
              clear c41
              obtain ⟨y183, hy183⟩ : ∃ y_ : List Int, y_ = (x3_1 ++ ((rd_T43 l0_1 x5_1).f2)) := ⟨_, rfl⟩
              replace H : (signalbenchref46_Check.l0 k3 y183 x4_3 (wrap64 (x5_1 + 1)) a0_0 l0_1) = some r := by first | (rw [hy183]; with_reducible exact H) | (have H2_ := (Option.bind_some _ _).symm.trans H; rw [hy183]; with_reducible exact H2_) | (have H2_ := (Option.bind_some _ _).symm.trans H; with_reducible exact H2_) | with_reducible exact H | (rw [hy183]; exact H) | exact H
              have Ny183 := Aside0.mk hy183
              clear hy183
              have H' := Aside0.mk H
              clear H
              have hnb42 := NB177_172.out
              have hnc42 := NB172_177.out
              obtain ⟨hcz43_0, hcz43_1, hcz43_2⟩ := bc3 BK177.out
              obtain ⟨hfz43_0, hfz43_1, hfz43_2⟩ := bf3 BK177.out
              go_wp2_with (first | ((with_reducible refine gate_builtin (b := .append) (xs := #[.tmp 66, .tmp 68]) rfl ?_); at_builtin; refine Kd.R_append_rows (Kd.int .i64) (w0 := w) w.heap.size rfl (.tmp 66) (.tmp 68) 36 3 (.int .i64 0) 8 rfl Try.underlying36 info3 rfl (by decide) (by omega) u3 x3_1 ((rd_T43 l0_1 x5_1).f2) _ _ _ (fun _ => True) (fun _ => False) rfl rfl ?aO ?aR (fun _ _ h => h) (fun _ h => h.elim) ?aF ?aB ?aS ?aL ?_; (case aR => repeat (first | exact (Kd.C_below HR176_2.out HB.out) | (with_reducible refine Kd.C_alloc ?_ _) | (with_reducible refine Kd.C_drewN ?_ _) | (with_reducible refine Kd.C_drew ?_))); (case aB => exact (bs HB.out)); (case aF => exact (fun _ _ => trivial)); (case aO => exact (rq HO_3.out)); (case aS => exact (below_size (bs HB.out))); (case aL => have := LMc41.out; omega); intro v184 w44 ho hb hg hat; rw [← Ny183.out] at ho; have n0_ := Aside0.mk (blk_grown (g := gb172) (o := .cells #[.int .i64 a0_0, .slice (some ad176) l0_1.length c0_1] 27 (0, 0)) (bg BK172.out) hg (Kd.R_ne HO_3.out BK172.out (by decide))); have n1_ := Aside0.mk (blk_grown (g := gb177) (o := .cells #[.int .i64 ((rd_T43 l0_1 x5_1).f0), .int .i64 ((rd_T43 l0_1 x5_1).f1), .slice A176_2 ((rd_T43 l0_1 x5_1).f2).length c176_2] 43 (0, 0)) (bg BK177.out) hg (Kd.R_ne HO_3.out BK177.out (by decide))); have n2_ := Aside0.mk (hb); have n3_ := Aside0.mk (ho); clear BK172; clear BK177; clear HB; clear HO_3; have BK172 := n0_; have BK177 := n1_; have HB := n2_; have HO185 := n3_; clear n0_ n1_ n2_ n3_; clear ho hb hg hat))
              go_roundg k3
              case measure => have := HK1.out; have := HJ10.out; have := HK3.out; omega
              case rel => exact ⟨(y183), (x4_3), (wrap64 (x5_1 + 1)), (by first | rfl | (simp; done) | (simp [*]; done)), (by first | rfl | (simp; done) | (simp [*]; done)), H', ⟨by have := HK1.out; have := HJ10.out; have := HK3.out; omega⟩, ⟨by (with_reducible repeat (first | apply Kd.R_alloc | apply Kd.R_drewN | apply Kd.R_drew)); exact HO185.out⟩, ⟨bg BK172.out⟩, ⟨bs HB.out⟩⟩
             ·
              rw [if_neg c41] at H
              exact absurd H (by simp)
         ·
          rw [if_neg c28] at H
          have c28b0 : (t180 == 0) = false := beq_eq_false_iff_ne.mpr c28
          have c28b1 : (t180 != 0) = true := bne_iff_ne.mpr c28
          obtain rfl := Option.some.inj H
          have hnb45 := NB177_172.out
          have hnc45 := NB172_177.out
          obtain ⟨hcz46_0, hcz46_1, hcz46_2⟩ := bc3 BK177.out
          obtain ⟨hfz46_0, hfz46_1, hfz46_2⟩ := bf3 BK177.out
          obtain ⟨hcz47_0, hcz47_1⟩ := bc2 BK172.out
          obtain ⟨hfz47_0, hfz47_1⟩ := bf2 BK172.out
          go_wp2_with (first | ((with_reducible refine gate_callee (f := 28) rfl ?_); refine goesL_ (some 45) rfl rfl Try.func28 (by kernel_rfl) rfl #[.slice A176_2 ((rd_T43 l0_1 x5_1).f2).length c176_2, .int .i64 a0_0] rfl (by (try simp only [List.map_toArray, List.map_cons, List.map_nil]); first | done | rfl | (simp only [List.length_drop, List.length_take]; rfl)) ?_; (with_reducible refine (signalbenchref46_wrongPlaces.calls kj10 _ _ ((rd_T43 l0_1 x5_1).f2) a0_0 t180 _ ?side1 ?side2 A27.out).mono ?_); (case side1 => repeat (first | exact (Kd.C_below HR176_2.out HB.out) | (with_reducible refine Kd.C_alloc ?_ _) | (with_reducible refine Kd.C_drewN ?_ _) | (with_reducible refine Kd.C_drew ?_))); (case side2 => exact HC176_2.out); rintro e w' ⟨rfl, ⟨nd, rfl⟩⟩; refine ⟨_, rfl, ?_⟩))
          go_ret
          exact ⟨by first | rfl | (simp [errW_none, errW_some] <;> rfl) | (simp [*, errW_none, errW_some] <;> rfl), bs HB.out⟩
     ·
      rw [if_neg c10] at H
      exact absurd H (by simp)
    ·
     rw [if_neg c9] at H
     have c9b0 : decide (x5_1 < (l0_1.length : Int)) = false := decide_eq_false c9
     clear c9
     by_cases c48 : x4_1 = true
     ·
      subst c48
      have H1 : (some 9) = some r := by rw [if_pos rfl] at H; exact H
      clear H
      have H := H1
      clear H1
      obtain rfl := Option.some.inj H
      obtain ⟨hcz49_0, hcz49_1⟩ := bc2 BK172.out
      obtain ⟨hfz49_0, hfz49_1⟩ := bf2 BK172.out
      go_wp2
      go_ret
      exact ⟨by first | rfl | (simp [errW_none, errW_some] <;> rfl) | (simp [*, errW_none, errW_some] <;> rfl), bs HB.out⟩
     ·
      replace c48 := Bool.eq_false_iff.mpr c48
      subst c48
      have H1 : (if (x3_1.length : Int) < a0_0 then (some 12) else (some 0)) = some r := by rw [if_neg (show ¬ (false = true) by decide)] at H; exact H
      clear H
      have H := H1
      clear H1
      by_cases c50 : (x3_1.length : Int) < a0_0
      ·
       rw [if_pos c50] at H
       have c50b0 : decide ((x3_1.length : Int) < a0_0) = true := decide_eq_true c50
       clear c50
       obtain rfl := Option.some.inj H
       obtain ⟨hcz51_0, hcz51_1⟩ := bc2 BK172.out
       obtain ⟨hfz51_0, hfz51_1⟩ := bf2 BK172.out
       obtain ⟨Ao52, co52, eo52⟩ := Kd.R_slice HO_3.out
       subst eo52
       go_wp2
       go_ret
       exact ⟨by first | rfl | (simp [errW_none, errW_some] <;> rfl) | (simp [*, errW_none, errW_some] <;> rfl), bs HB.out⟩
      ·
       rw [if_neg c50] at H
       have c50b0 : decide ((x3_1.length : Int) < a0_0) = false := decide_eq_false c50
       clear c50
       obtain rfl := Option.some.inj H
       obtain ⟨hcz53_0, hcz53_1⟩ := bc2 BK172.out
       obtain ⟨hfz53_0, hfz53_1⟩ := bf2 BK172.out
       obtain ⟨Ao54, co54, eo54⟩ := Kd.R_slice HO_3.out
       subst eo54
       go_wp2
       go_ret
       exact ⟨by first | rfl | (simp [errW_none, errW_some] <;> rfl) | (simp [*, errW_none, errW_some] <;> rfl), bs HB.out⟩

end Go.Proofs.Yteifekndhgkgcaa.H
