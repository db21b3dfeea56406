-- Printed by wip/hprint.py (this project's own driver of the kit's print) out of the translation; Lean checks it.
import Derived.Test.YtgdjiphljadlcaaH0
import Derived.Test.YtgdjiphljadlcaaH9
import Derived.Test.YtgdjiphljadlcaaH10
namespace Go.Proofs.Ytgdjiphljadlcaa.H
open Go.RowKit Go.Proofs.YtgdjiphljadlcaaW.PrintWords Go.Proofs.YtgdjiphljadlcaaW.PrintLast Go.Proofs.YtgdjiphljadlcaaW.PrintMore
attribute [local go_sem] max2_int min2_int max_two min_two max_three min_three max_four min_four   -- for this text's walks alone
set_option linter.unusedVariables false
set_option linter.unusedSimpArgs false

/-! ### trigauto_Compile: function 16 -/
mutual
def trigauto_Compile.l0 : Nat → List (S50) → List (S64) → Int → Int → List (S139) → List (S100) → Option ((List (S50)) × Int)
 | 0, _, _, _, _, _, _ => none
 | k + 1, x7, x19, x20, x21, x130000, x130001 => if x21 < x20 then (if 0 ≤ x21 then (if x21 < (x19.length : Int) then ((trigauto_compiled.f ((rd_T64 x19 x21).f0.f0) ((rd_T64 x19 x21).f0.f1) ((rd_T64 x19 x21).f0.f2) ((rd_T64 x19 x21).f0.f3) ((rd_T64 x19 x21).f0.f4) x130000 x130001).bind fun bt136 => (if (rd_T64 x19 x21).f3 = true then ((trigauto_compiled.f ((rd_T64 x19 x21).f4.f0) ((rd_T64 x19 x21).f4.f1) ((rd_T64 x19 x21).f4.f2) ((rd_T64 x19 x21).f4.f3) ((rd_T64 x19 x21).f4.f4) x130000 x130001).bind fun bt142 => (trigauto_Compile.j1 k x7 x19 x20 x21 x130000 x130001 ((rd_T64 x19 x21).f0.f0) ((rd_T64 x19 x21).f0.f1) ((rd_T64 x19 x21).f0.f2) ((rd_T64 x19 x21).f0.f3) ((rd_T64 x19 x21).f0.f4) ((rd_T64 x19 x21).f1) ((rd_T64 x19 x21).f2) ((rd_T64 x19 x21).f3) ((rd_T64 x19 x21).f4.f0) ((rd_T64 x19 x21).f4.f1) ((rd_T64 x19 x21).f4.f2) ((rd_T64 x19 x21).f4.f3) ((rd_T64 x19 x21).f4.f4) bt136.1 bt136.2.1 bt136.2.2.1 bt136.2.2.2.1 bt136.2.2.2.2 ((rd_T64 x19 x21).f2) ((rd_T64 x19 x21).f3) bt142.1 bt142.2.1 bt142.2.2.1 bt142.2.2.2.1 bt142.2.2.2.2)) else (trigauto_Compile.j1 k x7 x19 x20 x21 x130000 x130001 ((rd_T64 x19 x21).f0.f0) ((rd_T64 x19 x21).f0.f1) ((rd_T64 x19 x21).f0.f2) ((rd_T64 x19 x21).f0.f3) ((rd_T64 x19 x21).f0.f4) ((rd_T64 x19 x21).f1) ((rd_T64 x19 x21).f2) ((rd_T64 x19 x21).f3) ((rd_T64 x19 x21).f4.f0) ((rd_T64 x19 x21).f4.f1) ((rd_T64 x19 x21).f4.f2) ((rd_T64 x19 x21).f4.f3) ((rd_T64 x19 x21).f4.f4) bt136.1 bt136.2.1 bt136.2.2.1 bt136.2.2.2.1 bt136.2.2.2.2 ((rd_T64 x19 x21).f2) ((rd_T64 x19 x21).f3) 0 0 0 0 0))) else (none)) else (none)) else (if 0 < (x7.length : Int) then (some ((x7.set (0 : Int).toNat (⟨(⟨(rd_T50 x7 0).f0.f0, (rd_T50 x7 0).f0.f1, (rd_T50 x7 0).f0.f2, (rd_T50 x7 0).f0.f3, (rd_T50 x7 0).f0.f4⟩ : S42), 0, false, (⟨0, 0, 0, 0, 0⟩ : S42)⟩ : S50)), 0)) else (none))
def trigauto_Compile.j1 : Nat → List (S50) → List (S64) → Int → Int → List (S139) → List (S100) → ByteArray → Int → Int → Int → Int → Int → Int → Bool → ByteArray → Int → Int → Int → Int → Int → Int → Int → Int → Int → Int → Bool → Int → Int → Int → Int → Int → Option ((List (S50)) × Int)
 | 0, _, _, _, _, _, _, _, _, _, _, _, _, _, _, _, _, _, _, _, _, _, _, _, _, _, _, _, _, _, _, _ => none
 | k + 1, x7, x19, x20, x21, x130000, x130001, x136000, x136001, x136002, x136003, x136004, x136005, x136006, x136007, x136008, x136009, x136010, x136011, x136012, x142000, x142001, x142002, x142003, x142004, x142005, x142006, x142007, x142008, x142009, x142010, x142011 => trigauto_Compile.l1 k x7 x19 x20 x21 x136005 0 x130000 x130001 x142000 x142001 x142002 x142003 x142004 x142005 x142006 x142007 x142008 x142009 x142010 x142011
def trigauto_Compile.l1 : Nat → List (S50) → List (S64) → Int → Int → Int → Int → List (S139) → List (S100) → Int → Int → Int → Int → Int → Int → Bool → Int → Int → Int → Int → Int → Option ((List (S50)) × Int)
 | 0, _, _, _, _, _, _, _, _, _, _, _, _, _, _, _, _, _, _, _, _ => none
 | k + 1, x7, x19, x20, x21, x42, x43, x130000, x130001, x142000, x142001, x142002, x142003, x142004, x142005, x142006, x142007, x142008, x142009, x142010, x142011 => if x43 < x42 then (if x7.length < 1466015503701 then (trigauto_Compile.l1 k (x7 ++ [(⟨(⟨x142000, x142001, x142002, x142003, x142004⟩ : S42), x142005, x142006, (⟨x142007, x142008, x142009, x142010, x142011⟩ : S42)⟩ : S50)]) x19 x20 x21 x42 (wrap64 (x43 + 1)) x130000 x130001 x142000 x142001 x142002 x142003 x142004 x142005 x142006 x142007 x142008 x142009 x142010 x142011) else (none)) else (trigauto_Compile.l0 k x7 x19 x20 (wrap64 (x21 + 1)) x130000 x130001)
end
def trigauto_Compile.f (k : Nat) (a0_0 : ByteArray) (l0_1 : List (S64)) (l1_0 : List (S139)) (l1_1 : List (S100)) : Option ((List (S50)) × Int) := (trig_Check.f k a0_0 l0_1 l1_0 l1_1).bind fun t131 => (if t131 = 0 then (trigauto_Compile.l0 k ([] : List (S50)) l0_1 (l0_1.length : Int) 0 l1_0 l1_1) else (some (([] : List (S50)), t131)))
def trigauto_Compile.T8 : Bool × List (List Nat × List Nat) := (true, [([], []), ([0], [0]), ([], []), ([1, 2], [1, 2]), ([], []), ([4], [4]), ([], []), ([6], [6]), ([3, 5, 7], [3, 5, 7]), ([], []), ([9, 8, 3, 0, 1, 2, 3, 4, 5, 6, 7, 8, 9], [8, 9])])
def trigauto_Compile.B8 : List Nat := [0, 1, 0, 7, 0, 16, 0, 64, 255, 0, 1023]
theorem trigauto_Compile.tab8 : rtab .any (opsOf Try.f16 8) = trigauto_Compile.T8 := by kernel_rfl
theorem trigauto_Compile.bits8 : waitsOk trigauto_Compile.T8.2 trigauto_Compile.B8 = true := by kernel_rfl
def trigauto_Compile.T13 : Bool × List (List Nat × List Nat) := (true, [([], []), ([], []), ([1], [1]), ([], []), ([3], [3]), ([0, 2, 4], [0, 2, 4]), ([], []), ([6], [6]), ([5, 7], [5, 7]), ([8, 8, 0, 1, 2, 3, 4, 5, 6, 7, 8], [0, 1, 3, 8])])
def trigauto_Compile.B13 : List Nat := [0, 0, 2, 0, 8, 31, 0, 64, 255, 511]
theorem trigauto_Compile.tab13 : rtab .any (opsOf Try.f16 13) = trigauto_Compile.T13 := by kernel_rfl
theorem trigauto_Compile.bits13 : waitsOk trigauto_Compile.T13.2 trigauto_Compile.B13 = true := by kernel_rfl
set_option maxHeartbeats 8000000 in
set_option maxRecDepth 100000 in
theorem trigauto_Compile.calls (k : Nat) (a0_0 : ByteArray) (A0_1 : Option Addr) (c0_1 : Nat) (l0_1 : List (S64)) (A1_0 : Option Addr) (c1_0 : Nat) (l1_0 : List (S139)) (A1_1 : Option Addr) (c1_1 : Nat) (l1_1 : List (S100)) (r1 : List (S50)) (r2 : Int) (w : World) (hr0_1 : Kd.C k64 w A0_1 l0_1.length l0_1) (hc0_1 : l0_1.length ≤ c0_1) (hr1_0 : Kd.C k139 w A1_0 l1_0.length l1_0) (hc1_0 : l1_0.length ≤ c1_0) (hr1_1 : Kd.C k100 w A1_1 l1_1.length l1_1) (hc1_1 : l1_1.length ≤ c1_1) (h : trigauto_Compile.f k a0_0 l0_1 l1_0 l1_1 = some (r1, r2)) :
  Calls Try.prog 16 #[.agg #[.string a0_0, .slice A0_1 l0_1.length c0_1], .agg #[.slice A1_0 l1_0.length c1_0, .slice A1_1 l1_1.length c1_1]] w fun e w' => ∃ v0_ : Value, e = .returned (.tuple #[.agg #[v0_], .int .i64 r2]) ∧ Kd.R k50 50 w' w.heap.size (fun _ => True) v0_ r1 ∧ Below w.heap.size w w' := by
 have hu24 := Try.underlying24
 have hu28 := Try.underlying28
 have hu31 := Try.underlying31
 have hu64 := Try.underlying64
 have hu62 := Try.underlying62
 have hu50 := Try.underlying50
 have hu42 := Try.underlying42
 have HR0_1 := Aside0.mk hr0_1
 have HC0_1 := Aside0.mk hc0_1
 clear hr0_1 hc0_1
 have HR1_0 := Aside0.mk hr1_0
 have HC1_0 := Aside0.mk hc1_0
 clear hr1_0 hc1_0
 have HR1_1 := Aside0.mk hr1_1
 have HC1_1 := Aside0.mk hc1_1
 clear hr1_1 hc1_1
 have HB := Aside0.mk (Below.refl w.heap.size w)
 have H : ((trig_Check.f k a0_0 l0_1 l1_0 l1_1).bind fun t131 => (if t131 = 0 then (trigauto_Compile.l0 k ([] : List (S50)) l0_1 (l0_1.length : Int) 0 l1_0 l1_1) else (some (([] : List (S50)), t131)))) = some (r1, r2) := h
 clear h
 replace H := Option.bind_eq_some_iff.mp H
 obtain ⟨t131, A30, H⟩ := H
 replace H : (if t131 = 0 then (trigauto_Compile.l0 k ([] : List (S50)) l0_1 (l0_1.length : Int) 0 l1_0 l1_1) else (some (([] : List (S50)), t131))) = some (r1, r2) := H
 have A3 := Aside0.mk A30
 clear A30
 by_cases c4 : t131 = 0
 ·
  rw [if_pos c4] at H
  have c4b0 : (t131 == 0) = true := beq_iff_eq.mpr c4
  have c4b1 : (t131 != 0) = false := bne_eq_false_iff_eq.mpr c4
  clear c4
  have H' := Aside0.mk H
  clear H
  go_enter Try.func16, Try.ntmps16
  go_wp2_with (first | ((with_reducible refine gate_dst (N := 2) rfl ?_); refine box_event ?hg (N := 2) ?hd (cs := #[.string a0_0, .slice A0_1 l0_1.length c0_1]) (t := 24) ?hr ?_; (case hd => rfl); (case hg => rfl); (case hr => first | (go_simp; done) | (go_simp; rfl)); intro gb128 hg w5 hbox hb; have n0_ := Aside0.mk (below_step (bs HB.out) hb); have n1_ := Aside0.mk (hbox); have n2_ := Aside0.mk ((by rw [hg]; exact (below_size (bs HB.out)) : w.heap.size ≤ gb128)); have n3_ := n2_; clear HB; have HB := n0_; have BK128 := n1_; have GW128 := n2_; have GE128 := n3_; clear n0_ n1_ n2_ n3_; clear hb hbox hg) | ((with_reducible refine gate_dst (N := 3) rfl ?_); refine box_event ?hg (N := 3) ?hd (cs := #[.slice A1_0 l1_0.length c1_0, .slice A1_1 l1_1.length c1_1]) (t := 28) ?hr ?_; (case hd => rfl); (case hg => rfl); (case hr => first | (go_simp; done) | (go_simp; rfl)); intro gb129 hg w6 hbox hb; have n0_ := Aside0.mk (blk_below (bg BK128.out) hb); have n1_ := Aside0.mk (below_step (bs HB.out) hb); have n2_ := Aside0.mk (hbox); have n3_ := Aside0.mk ((by rw [hg]; exact (below_size (bs HB.out)) : w.heap.size ≤ gb129)); have n4_ := n3_; have n5_ := Aside0.mk ((by rw [hg]; exact Nat.ne_of_lt (blk_lt (bg BK128.out)) : gb128 ≠ gb129)); have n6_ := Aside0.mk ((by rw [hg]; exact Nat.ne_of_gt (blk_lt (bg BK128.out)) : gb129 ≠ gb128)); clear BK128; clear HB; have BK128 := n0_; have HB := n1_; have BK129 := n2_; have GW129 := n3_; have GE129 := n4_; have NB128_129 := n5_; have NB129_128 := n6_; clear n0_ n1_ n2_ n3_ n4_ n5_ n6_; clear hb hbox hg) | ((with_reducible refine gate_dst (N := 4) rfl ?_); refine box_event ?hg (N := 4) ?hd (cs := #[.slice none 0 0]) (t := 31) ?hr ?_; (case hd => rfl); (case hg => rfl); (case hr => first | (go_simp; done) | (go_simp; rfl)); intro gb130 hg w7 hbox hb; have n0_ := Aside0.mk (blk_below (bg BK128.out) hb); have n1_ := Aside0.mk (blk_below (bg BK129.out) hb); have n2_ := Aside0.mk (below_step (bs HB.out) hb); have n3_ := Aside0.mk (hbox); have n4_ := Aside0.mk ((by rw [hg]; exact (below_size (bs HB.out)) : w.heap.size ≤ gb130)); have n5_ := n4_; have n6_ := Aside0.mk ((by rw [hg]; exact Nat.ne_of_lt (blk_lt (bg BK128.out)) : gb128 ≠ gb130)); have n7_ := Aside0.mk ((by rw [hg]; exact Nat.ne_of_gt (blk_lt (bg BK128.out)) : gb130 ≠ gb128)); have n8_ := Aside0.mk ((by rw [hg]; exact Nat.ne_of_lt (blk_lt (bg BK129.out)) : gb129 ≠ gb130)); have n9_ := Aside0.mk ((by rw [hg]; exact Nat.ne_of_gt (blk_lt (bg BK129.out)) : gb130 ≠ gb129)); clear BK128; clear BK129; clear HB; have BK128 := n0_; have BK129 := n1_; have HB := n2_; have BK130 := n3_; have GW130 := n4_; have GE130 := n5_; have NB128_130 := n6_; have NB130_128 := n7_; have NB129_130 := n8_; have NB130_129 := n9_; clear n0_ n1_ n2_ n3_ n4_ n5_ n6_ n7_ n8_ n9_; clear hb hbox hg; have hnb8 := NB128_129.out; have hnc8 := NB129_128.out; have hnb9 := NB128_130.out; have hnc9 := NB130_128.out; obtain ⟨hcz10_0, hcz10_1⟩ := bc2 BK128.out; obtain ⟨hfz10_0, hfz10_1⟩ := bf2 BK128.out; have hnb11 := NB129_130.out; have hnc11 := NB130_129.out; obtain ⟨hcz12_0, hcz12_1⟩ := bc2 BK129.out; obtain ⟨hfz12_0, hfz12_1⟩ := bf2 BK129.out) | ((with_reducible refine gate_callee (f := 25) rfl ?_); refine goesL_ (some 13) rfl rfl Try.func25 (by kernel_rfl) rfl #[.agg #[.string a0_0, .slice A0_1 l0_1.length c0_1], .agg #[.slice A1_0 l1_0.length c1_0, .slice A1_1 l1_1.length c1_1]] rfl (by (try simp only [List.map_toArray, List.map_cons, List.map_nil]); first | done | rfl | (simp only [List.length_drop, List.length_take]; rfl)) ?_; (with_reducible refine (trig_Check.calls k a0_0 _ _ l0_1 _ _ l1_0 _ _ l1_1 t131 _ ?side1 ?side2 ?side3 ?side4 ?side5 ?side6 A3.out).mono ?_); (case side1 => repeat (first | exact (Kd.C_below HR0_1.out HB.out) | (with_reducible refine Kd.C_alloc ?_ _) | (with_reducible refine Kd.C_drewN ?_ _) | (with_reducible refine Kd.C_drew ?_))); (case side2 => exact HC0_1.out); (case side3 => repeat (first | exact (Kd.C_below HR1_0.out HB.out) | (with_reducible refine Kd.C_alloc ?_ _) | (with_reducible refine Kd.C_drewN ?_ _) | (with_reducible refine Kd.C_drew ?_))); (case side4 => exact HC1_0.out); (case side5 => repeat (first | exact (Kd.C_below HR1_1.out HB.out) | (with_reducible refine Kd.C_alloc ?_ _) | (with_reducible refine Kd.C_drewN ?_ _) | (with_reducible refine Kd.C_drew ?_))); (case side6 => exact HC1_1.out); rintro e w13 ⟨rfl, hb⟩; refine ⟨_, rfl, ?_⟩; have n0_ := Aside0.mk (blk_below (bg BK128.out) hb); have n1_ := Aside0.mk (blk_below (bg BK129.out) hb); have n2_ := Aside0.mk (blk_below (bg BK130.out) hb); have n3_ := Aside0.mk (below_step (bs HB.out) hb); clear BK128; clear BK129; clear BK130; clear HB; have BK128 := n0_; have BK129 := n1_; have BK130 := n2_; have HB := n3_; clear n0_ n1_ n2_ n3_; (try clear hb); (try clear hb2); (try clear hk); (try clear hi); obtain ⟨hcz14_0, hcz14_1⟩ := bc2 BK128.out; obtain ⟨hfz14_0, hfz14_1⟩ := bf2 BK128.out))
  go_loopg [7, 21] k (fun kq v7 v21 w' => ∃ (x7_1 : List (S50)) (x21_1 : Int), v21 = .int .i64 x21_1 ∧ Aside0 (trigauto_Compile.l0 kq x7_1 l0_1 (l0_1.length : Int) x21_1 l1_0 l1_1 = some (r1, r2)) ∧ Aside0 (kq ≤ k) ∧ Aside0 (Kd.R k50 50 w' w.heap.size (fun _ => True) v7 x7_1) ∧ Aside0 (w'.heap[gb128]? = some (.cells #[.string a0_0, (.slice A0_1 l0_1.length c0_1)] 24 (0, 0))) ∧ Aside0 (w'.heap[gb129]? = some (.cells #[(.slice A1_0 l1_0.length c1_0), (.slice A1_1 l1_1.length c1_1)] 28 (0, 0))) ∧ Aside0 (w'.heap[gb130]? = some (.cells #[(.slice none 0 0)] 31 (0, 0))) ∧ Aside0 (Below w.heap.size w w'))
  case atStart => exact ⟨(([] : List (S50))), (0), (by first | rfl | (simp; done) | (simp [*]; done)), H', ⟨Nat.le_refl _⟩, ⟨by first | exact Kd.R_nil _ _ _ _ _ | exact Kd.N_nil _ _ _ _ _ | exact Kd.V_nil _ _ _ _ _ | exact Kd.Q_nil _ _ _ _ _ | exact Kd.S_nil _ _ _ _ _⟩, ⟨bg BK128.out⟩, ⟨bg BK129.out⟩, ⟨bg BK130.out⟩, ⟨bs HB.out⟩⟩
  case round =>
   clear H'
   try clear c1
   try clear c2
   try clear p2
   try clear c4
   try clear c4b0
   try clear c4b1
   try clear c8
   try clear c9
   try clear c11
   try clear hcz10_0 hcz10_1
   try clear hcz12_0 hcz12_1
   try clear hcz14_0 hcz14_1
   try clear hfz10_0 hfz10_1
   try clear hfz12_0 hfz12_1
   try clear hfz14_0 hfz14_1
   obtain ⟨x7_1, x21_1, rfl, HA, HK1, HO_7, BK128, BK129, BK130, HB⟩ := hrel
   cases gk with
   | zero => exact absurd HA.out (by simp [trigauto_Compile.l0])
   | succ k1 =>
    have H := HA.out
    clear HA
    simp only [trigauto_Compile.l0] at H
    by_cases c15 : x21_1 < (l0_1.length : Int)
    ·
     rw [if_pos c15] at H
     have c15b0 : decide (x21_1 < (l0_1.length : Int)) = true := decide_eq_true c15
     clear c15
     by_cases c16 : 0 ≤ x21_1
     ·
      rw [if_pos c16] at H
      have c16b0 : decide (0 ≤ x21_1) = true := decide_eq_true c16
      clear c16
      by_cases c17 : x21_1 < (l0_1.length : Int)
      ·
       rw [if_pos c17] at H
       have c17b0 : decide (x21_1 < (l0_1.length : Int)) = true := decide_eq_true c17
       clear c17
       replace H := Option.bind_eq_some_iff.mp H
       obtain ⟨⟨t136, t137, t138, t139, t140⟩, A180, H⟩ := H
       replace H : (if (rd_T64 l0_1 x21_1).f3 = true then ((trigauto_compiled.f ((rd_T64 l0_1 x21_1).f4.f0) ((rd_T64 l0_1 x21_1).f4.f1) ((rd_T64 l0_1 x21_1).f4.f2) ((rd_T64 l0_1 x21_1).f4.f3) ((rd_T64 l0_1 x21_1).f4.f4) l1_0 l1_1).bind fun bt142 => (trigauto_Compile.j1 k1 x7_1 l0_1 (l0_1.length : Int) x21_1 l1_0 l1_1 ((rd_T64 l0_1 x21_1).f0.f0) ((rd_T64 l0_1 x21_1).f0.f1) ((rd_T64 l0_1 x21_1).f0.f2) ((rd_T64 l0_1 x21_1).f0.f3) ((rd_T64 l0_1 x21_1).f0.f4) ((rd_T64 l0_1 x21_1).f1) ((rd_T64 l0_1 x21_1).f2) ((rd_T64 l0_1 x21_1).f3) ((rd_T64 l0_1 x21_1).f4.f0) ((rd_T64 l0_1 x21_1).f4.f1) ((rd_T64 l0_1 x21_1).f4.f2) ((rd_T64 l0_1 x21_1).f4.f3) ((rd_T64 l0_1 x21_1).f4.f4) t136 t137 t138 t139 t140 ((rd_T64 l0_1 x21_1).f2) ((rd_T64 l0_1 x21_1).f3) bt142.1 bt142.2.1 bt142.2.2.1 bt142.2.2.2.1 bt142.2.2.2.2)) else (trigauto_Compile.j1 k1 x7_1 l0_1 (l0_1.length : Int) x21_1 l1_0 l1_1 ((rd_T64 l0_1 x21_1).f0.f0) ((rd_T64 l0_1 x21_1).f0.f1) ((rd_T64 l0_1 x21_1).f0.f2) ((rd_T64 l0_1 x21_1).f0.f3) ((rd_T64 l0_1 x21_1).f0.f4) ((rd_T64 l0_1 x21_1).f1) ((rd_T64 l0_1 x21_1).f2) ((rd_T64 l0_1 x21_1).f3) ((rd_T64 l0_1 x21_1).f4.f0) ((rd_T64 l0_1 x21_1).f4.f1) ((rd_T64 l0_1 x21_1).f4.f2) ((rd_T64 l0_1 x21_1).f4.f3) ((rd_T64 l0_1 x21_1).f4.f4) t136 t137 t138 t139 t140 ((rd_T64 l0_1 x21_1).f2) ((rd_T64 l0_1 x21_1).f3) 0 0 0 0 0)) = some (r1, r2) := H
       have A18 := Aside0.mk A180
       clear A180
       have HC19 := Aside0.mk H
       clear H
       have p134 : 0 ≤ (x21_1 : Int) := of_decide_eq_true (by first | (with_reducible assumption) | assumption)
       have q134 : x21_1 < (l0_1.length : Int) := of_decide_eq_true (by first | (with_reducible assumption) | assumption)
       obtain ⟨ad134, e134, hx134_0, hx134_1, hx134_2, hx134_3, hx134_4, hx134_5, hx134_6, hx134_7, hx134_8, hx134_9, hx134_10, hx134_11, hx134_12⟩ := at_T64 HR0_1.out x21_1 p134 q134
       cases e134
       replace hx134_0 := pw_cell_below HB.out hx134_0
       replace hx134_1 := pw_cell_below HB.out hx134_1
       replace hx134_2 := pw_cell_below HB.out hx134_2
       replace hx134_3 := pw_cell_below HB.out hx134_3
       replace hx134_4 := pw_cell_below HB.out hx134_4
       replace hx134_5 := pw_cell_below HB.out hx134_5
       replace hx134_6 := pw_cell_below HB.out hx134_6
       replace hx134_7 := pw_cell_below HB.out hx134_7
       replace hx134_8 := pw_cell_below HB.out hx134_8
       replace hx134_9 := pw_cell_below HB.out hx134_9
       replace hx134_10 := pw_cell_below HB.out hx134_10
       replace hx134_11 := pw_cell_below HB.out hx134_11
       replace hx134_12 := pw_cell_below HB.out hx134_12
       replace p134 := eq_true p134
       replace q134 := eq_true q134
       try go_wp2_with (first | ((with_reducible refine gate_dst (N := 9) rfl ?_); refine box_event ?hg (N := 9) ?hd (cs := #[.string (⟨#[]⟩ : ByteArray), .int .i64 0, .int .i64 0, .int .i64 0, .int .i64 0, .int .i64 0, .int .i64 0, .bool false, .string (⟨#[]⟩ : ByteArray), .int .i64 0, .int .i64 0, .int .i64 0, .int .i64 0]) (t := 64) ?hr ?_; (case hd => rfl); (case hg => rfl); (case hr => first | (go_simp; done) | (go_simp; rfl)); intro gb135 hg w20 hbox hb; have n0_ := Aside0.mk (Kd.R_below (by (with_reducible repeat (first | apply Kd.R_alloc | apply Kd.R_drewN | apply Kd.R_drew)); exact HO_7.out) hb); have n1_ := Aside0.mk (blk_below (bg BK128.out) hb); have n2_ := Aside0.mk (blk_below (bg BK129.out) hb); have n3_ := Aside0.mk (blk_below (bg BK130.out) hb); have n4_ := Aside0.mk (below_step (bs HB.out) hb); have n5_ := Aside0.mk (hbox); have n6_ := Aside0.mk ((by rw [hg]; exact (below_size (bs HB.out)) : w.heap.size ≤ gb135)); have n7_ := n6_; have n8_ := Aside0.mk ((by rw [hg]; exact Nat.ne_of_lt (blk_lt (bg BK128.out)) : gb128 ≠ gb135)); have n9_ := Aside0.mk ((by rw [hg]; exact Nat.ne_of_gt (blk_lt (bg BK128.out)) : gb135 ≠ gb128)); have n10_ := Aside0.mk ((by rw [hg]; exact Nat.ne_of_lt (blk_lt (bg BK129.out)) : gb129 ≠ gb135)); have n11_ := Aside0.mk ((by rw [hg]; exact Nat.ne_of_gt (blk_lt (bg BK129.out)) : gb135 ≠ gb129)); have n12_ := Aside0.mk ((by rw [hg]; exact Nat.ne_of_lt (blk_lt (bg BK130.out)) : gb130 ≠ gb135)); have n13_ := Aside0.mk ((by rw [hg]; exact Nat.ne_of_gt (blk_lt (bg BK130.out)) : gb135 ≠ gb130)); clear HO_7; clear BK128; clear BK129; clear BK130; clear HB; have HO_7 := n0_; have BK128 := n1_; have BK129 := n2_; have BK130 := n3_; have HB := n4_; have BK135 := n5_; have GW135 := n6_; have GE135 := n7_; have NB128_135 := n8_; have NB135_128 := n9_; have NB129_135 := n10_; have NB135_129 := n11_; have NB130_135 := n12_; have NB135_130 := n13_; clear n0_ n1_ n2_ n3_ n4_ n5_ n6_ n7_ n8_ n9_ n10_ n11_ n12_ n13_; clear hb hbox hg; have hnb21 := NB135_128.out; have hnc21 := NB128_135.out; have hnb22 := NB135_129.out; have hnc22 := NB129_135.out; have hnb23 := NB135_130.out; have hnc23 := NB130_135.out; obtain ⟨hcz24_0, hcz24_1, hcz24_2, hcz24_3, hcz24_4, hcz24_5, hcz24_6, hcz24_7, hcz24_8, hcz24_9, hcz24_10, hcz24_11, hcz24_12⟩ := bc13 BK135.out; obtain ⟨hfz24_0, hfz24_1, hfz24_2, hfz24_3, hfz24_4, hfz24_5, hfz24_6, hfz24_7, hfz24_8, hfz24_9, hfz24_10, hfz24_11, hfz24_12⟩ := bf13 BK135.out))
       have n0_ : Aside0 (Kd.R k50 50 (((((((((((((w20.setCell ⟨gb135, 0, none⟩ (.string ((rd_T64 l0_1 x21_1).f0.f0))).setCell ⟨gb135, 1, none⟩ (.int .i64 ((rd_T64 l0_1 x21_1).f0.f1))).setCell ⟨gb135, 2, none⟩ (.int .i64 ((rd_T64 l0_1 x21_1).f0.f2))).setCell ⟨gb135, 3, none⟩ (.int .i64 ((rd_T64 l0_1 x21_1).f0.f3))).setCell ⟨gb135, 4, none⟩ (.int .i64 ((rd_T64 l0_1 x21_1).f0.f4))).setCell ⟨gb135, 5, none⟩ (.int .i64 ((rd_T64 l0_1 x21_1).f1))).setCell ⟨gb135, 6, none⟩ (.int .i64 ((rd_T64 l0_1 x21_1).f2))).setCell ⟨gb135, 7, none⟩ (.bool ((rd_T64 l0_1 x21_1).f3))).setCell ⟨gb135, 8, none⟩ (.string ((rd_T64 l0_1 x21_1).f4.f0))).setCell ⟨gb135, 9, none⟩ (.int .i64 ((rd_T64 l0_1 x21_1).f4.f1))).setCell ⟨gb135, 10, none⟩ (.int .i64 ((rd_T64 l0_1 x21_1).f4.f2))).setCell ⟨gb135, 11, none⟩ (.int .i64 ((rd_T64 l0_1 x21_1).f4.f3))).setCell ⟨gb135, 12, none⟩ (.int .i64 ((rd_T64 l0_1 x21_1).f4.f4))) w.heap.size (fun _ => True) u7 x7_1) := ⟨by (with_reducible repeat (first | apply Kd.R_alloc | apply Kd.R_drewN | apply Kd.R_drew)); exact Kd.R_mono (Kd.R_far (p := ⟨gb135, 12, none⟩) (Kd.R_far (p := ⟨gb135, 11, none⟩) (Kd.R_far (p := ⟨gb135, 10, none⟩) (Kd.R_far (p := ⟨gb135, 9, none⟩) (Kd.R_far (p := ⟨gb135, 8, none⟩) (Kd.R_far (p := ⟨gb135, 7, none⟩) (Kd.R_far (p := ⟨gb135, 6, none⟩) (Kd.R_far (p := ⟨gb135, 5, none⟩) (Kd.R_far (p := ⟨gb135, 4, none⟩) (Kd.R_far (p := ⟨gb135, 3, none⟩) (Kd.R_far (p := ⟨gb135, 2, none⟩) (Kd.R_far (p := ⟨gb135, 1, none⟩) (Kd.R_far (p := ⟨gb135, 0, none⟩) (Kd.R_types HO_7.out BK135.out (by decide)) (fun _ hk => hk.2) (.string ((rd_T64 l0_1 x21_1).f0.f0))) (fun _ hk => hk.2) (.int .i64 ((rd_T64 l0_1 x21_1).f0.f1))) (fun _ hk => hk.2) (.int .i64 ((rd_T64 l0_1 x21_1).f0.f2))) (fun _ hk => hk.2) (.int .i64 ((rd_T64 l0_1 x21_1).f0.f3))) (fun _ hk => hk.2) (.int .i64 ((rd_T64 l0_1 x21_1).f0.f4))) (fun _ hk => hk.2) (.int .i64 ((rd_T64 l0_1 x21_1).f1))) (fun _ hk => hk.2) (.int .i64 ((rd_T64 l0_1 x21_1).f2))) (fun _ hk => hk.2) (.bool ((rd_T64 l0_1 x21_1).f3))) (fun _ hk => hk.2) (.string ((rd_T64 l0_1 x21_1).f4.f0))) (fun _ hk => hk.2) (.int .i64 ((rd_T64 l0_1 x21_1).f4.f1))) (fun _ hk => hk.2) (.int .i64 ((rd_T64 l0_1 x21_1).f4.f2))) (fun _ hk => hk.2) (.int .i64 ((rd_T64 l0_1 x21_1).f4.f3))) (fun _ hk => hk.2) (.int .i64 ((rd_T64 l0_1 x21_1).f4.f4))) (fun _ hk => trivial)⟩
       have n1_ : Aside0 ((((((((((((((w20.setCell ⟨gb135, 0, none⟩ (.string ((rd_T64 l0_1 x21_1).f0.f0))).setCell ⟨gb135, 1, none⟩ (.int .i64 ((rd_T64 l0_1 x21_1).f0.f1))).setCell ⟨gb135, 2, none⟩ (.int .i64 ((rd_T64 l0_1 x21_1).f0.f2))).setCell ⟨gb135, 3, none⟩ (.int .i64 ((rd_T64 l0_1 x21_1).f0.f3))).setCell ⟨gb135, 4, none⟩ (.int .i64 ((rd_T64 l0_1 x21_1).f0.f4))).setCell ⟨gb135, 5, none⟩ (.int .i64 ((rd_T64 l0_1 x21_1).f1))).setCell ⟨gb135, 6, none⟩ (.int .i64 ((rd_T64 l0_1 x21_1).f2))).setCell ⟨gb135, 7, none⟩ (.bool ((rd_T64 l0_1 x21_1).f3))).setCell ⟨gb135, 8, none⟩ (.string ((rd_T64 l0_1 x21_1).f4.f0))).setCell ⟨gb135, 9, none⟩ (.int .i64 ((rd_T64 l0_1 x21_1).f4.f1))).setCell ⟨gb135, 10, none⟩ (.int .i64 ((rd_T64 l0_1 x21_1).f4.f2))).setCell ⟨gb135, 11, none⟩ (.int .i64 ((rd_T64 l0_1 x21_1).f4.f3))).setCell ⟨gb135, 12, none⟩ (.int .i64 ((rd_T64 l0_1 x21_1).f4.f4))).heap[gb128]? = some (.cells #[.string a0_0, .slice (some ad134) l0_1.length c0_1] 24 (0, 0))) := ⟨by (iterate 13 (with_reducible repeat (first | refine blk_drewN ?_ _ | refine blk_drew ?_ | refine blk_alloc ?_ _)); refine blk_far ?_ NB128_135.out _); exact bg BK128.out⟩
       have n2_ : Aside0 ((((((((((((((w20.setCell ⟨gb135, 0, none⟩ (.string ((rd_T64 l0_1 x21_1).f0.f0))).setCell ⟨gb135, 1, none⟩ (.int .i64 ((rd_T64 l0_1 x21_1).f0.f1))).setCell ⟨gb135, 2, none⟩ (.int .i64 ((rd_T64 l0_1 x21_1).f0.f2))).setCell ⟨gb135, 3, none⟩ (.int .i64 ((rd_T64 l0_1 x21_1).f0.f3))).setCell ⟨gb135, 4, none⟩ (.int .i64 ((rd_T64 l0_1 x21_1).f0.f4))).setCell ⟨gb135, 5, none⟩ (.int .i64 ((rd_T64 l0_1 x21_1).f1))).setCell ⟨gb135, 6, none⟩ (.int .i64 ((rd_T64 l0_1 x21_1).f2))).setCell ⟨gb135, 7, none⟩ (.bool ((rd_T64 l0_1 x21_1).f3))).setCell ⟨gb135, 8, none⟩ (.string ((rd_T64 l0_1 x21_1).f4.f0))).setCell ⟨gb135, 9, none⟩ (.int .i64 ((rd_T64 l0_1 x21_1).f4.f1))).setCell ⟨gb135, 10, none⟩ (.int .i64 ((rd_T64 l0_1 x21_1).f4.f2))).setCell ⟨gb135, 11, none⟩ (.int .i64 ((rd_T64 l0_1 x21_1).f4.f3))).setCell ⟨gb135, 12, none⟩ (.int .i64 ((rd_T64 l0_1 x21_1).f4.f4))).heap[gb129]? = some (.cells #[.slice A1_0 l1_0.length c1_0, .slice A1_1 l1_1.length c1_1] 28 (0, 0))) := ⟨by (iterate 13 (with_reducible repeat (first | refine blk_drewN ?_ _ | refine blk_drew ?_ | refine blk_alloc ?_ _)); refine blk_far ?_ NB129_135.out _); exact bg BK129.out⟩
       have n3_ : Aside0 ((((((((((((((w20.setCell ⟨gb135, 0, none⟩ (.string ((rd_T64 l0_1 x21_1).f0.f0))).setCell ⟨gb135, 1, none⟩ (.int .i64 ((rd_T64 l0_1 x21_1).f0.f1))).setCell ⟨gb135, 2, none⟩ (.int .i64 ((rd_T64 l0_1 x21_1).f0.f2))).setCell ⟨gb135, 3, none⟩ (.int .i64 ((rd_T64 l0_1 x21_1).f0.f3))).setCell ⟨gb135, 4, none⟩ (.int .i64 ((rd_T64 l0_1 x21_1).f0.f4))).setCell ⟨gb135, 5, none⟩ (.int .i64 ((rd_T64 l0_1 x21_1).f1))).setCell ⟨gb135, 6, none⟩ (.int .i64 ((rd_T64 l0_1 x21_1).f2))).setCell ⟨gb135, 7, none⟩ (.bool ((rd_T64 l0_1 x21_1).f3))).setCell ⟨gb135, 8, none⟩ (.string ((rd_T64 l0_1 x21_1).f4.f0))).setCell ⟨gb135, 9, none⟩ (.int .i64 ((rd_T64 l0_1 x21_1).f4.f1))).setCell ⟨gb135, 10, none⟩ (.int .i64 ((rd_T64 l0_1 x21_1).f4.f2))).setCell ⟨gb135, 11, none⟩ (.int .i64 ((rd_T64 l0_1 x21_1).f4.f3))).setCell ⟨gb135, 12, none⟩ (.int .i64 ((rd_T64 l0_1 x21_1).f4.f4))).heap[gb130]? = some (.cells #[.slice none 0 0] 31 (0, 0))) := ⟨by (iterate 13 (with_reducible repeat (first | refine blk_drewN ?_ _ | refine blk_drew ?_ | refine blk_alloc ?_ _)); refine blk_far ?_ NB130_135.out _); exact bg BK130.out⟩
       have n4_ : Aside0 ((((((((((((((w20.setCell ⟨gb135, 0, none⟩ (.string ((rd_T64 l0_1 x21_1).f0.f0))).setCell ⟨gb135, 1, none⟩ (.int .i64 ((rd_T64 l0_1 x21_1).f0.f1))).setCell ⟨gb135, 2, none⟩ (.int .i64 ((rd_T64 l0_1 x21_1).f0.f2))).setCell ⟨gb135, 3, none⟩ (.int .i64 ((rd_T64 l0_1 x21_1).f0.f3))).setCell ⟨gb135, 4, none⟩ (.int .i64 ((rd_T64 l0_1 x21_1).f0.f4))).setCell ⟨gb135, 5, none⟩ (.int .i64 ((rd_T64 l0_1 x21_1).f1))).setCell ⟨gb135, 6, none⟩ (.int .i64 ((rd_T64 l0_1 x21_1).f2))).setCell ⟨gb135, 7, none⟩ (.bool ((rd_T64 l0_1 x21_1).f3))).setCell ⟨gb135, 8, none⟩ (.string ((rd_T64 l0_1 x21_1).f4.f0))).setCell ⟨gb135, 9, none⟩ (.int .i64 ((rd_T64 l0_1 x21_1).f4.f1))).setCell ⟨gb135, 10, none⟩ (.int .i64 ((rd_T64 l0_1 x21_1).f4.f2))).setCell ⟨gb135, 11, none⟩ (.int .i64 ((rd_T64 l0_1 x21_1).f4.f3))).setCell ⟨gb135, 12, none⟩ (.int .i64 ((rd_T64 l0_1 x21_1).f4.f4))).heap[gb135]? = some (.cells #[.string ((rd_T64 l0_1 x21_1).f0.f0), .int .i64 ((rd_T64 l0_1 x21_1).f0.f1), .int .i64 ((rd_T64 l0_1 x21_1).f0.f2), .int .i64 ((rd_T64 l0_1 x21_1).f0.f3), .int .i64 ((rd_T64 l0_1 x21_1).f0.f4), .int .i64 ((rd_T64 l0_1 x21_1).f1), .int .i64 ((rd_T64 l0_1 x21_1).f2), .bool ((rd_T64 l0_1 x21_1).f3), .string ((rd_T64 l0_1 x21_1).f4.f0), .int .i64 ((rd_T64 l0_1 x21_1).f4.f1), .int .i64 ((rd_T64 l0_1 x21_1).f4.f2), .int .i64 ((rd_T64 l0_1 x21_1).f4.f3), .int .i64 ((rd_T64 l0_1 x21_1).f4.f4)] 64 (0, 0))) := ⟨by exact pt13 (bg BK135.out)⟩
       have n5_ : Aside0 (Below w.heap.size w (((((((((((((w20.setCell ⟨gb135, 0, none⟩ (.string ((rd_T64 l0_1 x21_1).f0.f0))).setCell ⟨gb135, 1, none⟩ (.int .i64 ((rd_T64 l0_1 x21_1).f0.f1))).setCell ⟨gb135, 2, none⟩ (.int .i64 ((rd_T64 l0_1 x21_1).f0.f2))).setCell ⟨gb135, 3, none⟩ (.int .i64 ((rd_T64 l0_1 x21_1).f0.f3))).setCell ⟨gb135, 4, none⟩ (.int .i64 ((rd_T64 l0_1 x21_1).f0.f4))).setCell ⟨gb135, 5, none⟩ (.int .i64 ((rd_T64 l0_1 x21_1).f1))).setCell ⟨gb135, 6, none⟩ (.int .i64 ((rd_T64 l0_1 x21_1).f2))).setCell ⟨gb135, 7, none⟩ (.bool ((rd_T64 l0_1 x21_1).f3))).setCell ⟨gb135, 8, none⟩ (.string ((rd_T64 l0_1 x21_1).f4.f0))).setCell ⟨gb135, 9, none⟩ (.int .i64 ((rd_T64 l0_1 x21_1).f4.f1))).setCell ⟨gb135, 10, none⟩ (.int .i64 ((rd_T64 l0_1 x21_1).f4.f2))).setCell ⟨gb135, 11, none⟩ (.int .i64 ((rd_T64 l0_1 x21_1).f4.f3))).setCell ⟨gb135, 12, none⟩ (.int .i64 ((rd_T64 l0_1 x21_1).f4.f4)))) := ⟨bs HB.out⟩
       (try clear HO_7)
       (try clear BK128)
       (try clear BK129)
       (try clear BK130)
       (try clear BK135)
       (try clear HB)
       generalize (((((((((((((w20.setCell ⟨gb135, 0, none⟩ (.string ((rd_T64 l0_1 x21_1).f0.f0))).setCell ⟨gb135, 1, none⟩ (.int .i64 ((rd_T64 l0_1 x21_1).f0.f1))).setCell ⟨gb135, 2, none⟩ (.int .i64 ((rd_T64 l0_1 x21_1).f0.f2))).setCell ⟨gb135, 3, none⟩ (.int .i64 ((rd_T64 l0_1 x21_1).f0.f3))).setCell ⟨gb135, 4, none⟩ (.int .i64 ((rd_T64 l0_1 x21_1).f0.f4))).setCell ⟨gb135, 5, none⟩ (.int .i64 ((rd_T64 l0_1 x21_1).f1))).setCell ⟨gb135, 6, none⟩ (.int .i64 ((rd_T64 l0_1 x21_1).f2))).setCell ⟨gb135, 7, none⟩ (.bool ((rd_T64 l0_1 x21_1).f3))).setCell ⟨gb135, 8, none⟩ (.string ((rd_T64 l0_1 x21_1).f4.f0))).setCell ⟨gb135, 9, none⟩ (.int .i64 ((rd_T64 l0_1 x21_1).f4.f1))).setCell ⟨gb135, 10, none⟩ (.int .i64 ((rd_T64 l0_1 x21_1).f4.f2))).setCell ⟨gb135, 11, none⟩ (.int .i64 ((rd_T64 l0_1 x21_1).f4.f3))).setCell ⟨gb135, 12, none⟩ (.int .i64 ((rd_T64 l0_1 x21_1).f4.f4))) = w25 at n0_ n1_ n2_ n3_ n4_ n5_ ⊢
       have HO_7 := n0_
       have BK128 := n1_
       have BK129 := n2_
       have BK130 := n3_
       have BK135 := n4_
       have HB := n5_
       clear n0_ n1_ n2_ n3_ n4_ n5_
       have n0_ := Aside0.mk (Kd.R_drew HO_7.out)
       have n1_ := Aside0.mk (blk_drew BK128.out)
       have n2_ := Aside0.mk (blk_drew BK129.out)
       have n3_ := Aside0.mk (blk_drew BK130.out)
       have n4_ := Aside0.mk (blk_drew BK135.out)
       have n5_ := Aside0.mk (below_drew1 HB.out)
       clear HO_7
       clear BK128
       clear BK129
       clear BK130
       clear BK135
       clear HB
       have HO_7 := n0_
       have BK128 := n1_
       have BK129 := n2_
       have BK130 := n3_
       have BK135 := n4_
       have HB := n5_
       clear n0_ n1_ n2_ n3_ n4_ n5_
       refine start_ (n := 11) (S := fun w' => w'.cell? ⟨gb135, 0, none⟩ = some (.string ((rd_T64 l0_1 x21_1).f0.f0)) ∧ w'.cell? ⟨gb135, 1, none⟩ = some (.int .i64 ((rd_T64 l0_1 x21_1).f0.f1)) ∧ w'.cell? ⟨gb135, 2, none⟩ = some (.int .i64 ((rd_T64 l0_1 x21_1).f0.f2)) ∧ w'.cell? ⟨gb135, 3, none⟩ = some (.int .i64 ((rd_T64 l0_1 x21_1).f0.f3)) ∧ w'.cell? ⟨gb135, 4, none⟩ = some (.int .i64 ((rd_T64 l0_1 x21_1).f0.f4)) ∧ w'.cell? ⟨gb135, 5, none⟩ = some (.int .i64 ((rd_T64 l0_1 x21_1).f1)) ∧ w'.cell? ⟨gb135, 6, none⟩ = some (.int .i64 ((rd_T64 l0_1 x21_1).f2)) ∧ w'.cell? ⟨gb135, 7, none⟩ = some (.bool ((rd_T64 l0_1 x21_1).f3)) ∧ w'.cell? ⟨gb135, 8, none⟩ = some (.string ((rd_T64 l0_1 x21_1).f4.f0)) ∧ w'.cell? ⟨gb135, 9, none⟩ = some (.int .i64 ((rd_T64 l0_1 x21_1).f4.f1)) ∧ w'.cell? ⟨gb135, 10, none⟩ = some (.int .i64 ((rd_T64 l0_1 x21_1).f4.f2)) ∧ w'.cell? ⟨gb135, 11, none⟩ = some (.int .i64 ((rd_T64 l0_1 x21_1).f4.f3)) ∧ w'.cell? ⟨gb135, 12, none⟩ = some (.int .i64 ((rd_T64 l0_1 x21_1).f4.f4)) ∧ w'.cell? ⟨gb129, 0, none⟩ = some (.slice A1_0 l1_0.length c1_0) ∧ w'.cell? ⟨gb129, 1, none⟩ = some (.slice A1_1 l1_1.length c1_1)) (ds := []) (bsq 0 11) (by kernel_rfl) rfl rfl ⟨(blk_cell BK135.out 0).trans rfl, (blk_cell BK135.out 1).trans rfl, (blk_cell BK135.out 2).trans rfl, (blk_cell BK135.out 3).trans rfl, (blk_cell BK135.out 4).trans rfl, (blk_cell BK135.out 5).trans rfl, (blk_cell BK135.out 6).trans rfl, (blk_cell BK135.out 7).trans rfl, (blk_cell BK135.out 8).trans rfl, (blk_cell BK135.out 9).trans rfl, (blk_cell BK135.out 10).trans rfl, (blk_cell BK135.out 11).trans rfl, (blk_cell BK135.out 12).trans rfl, (blk_cell BK129.out 0).trans rfl, (blk_cell BK129.out 1).trans rfl⟩ (fun hHeld => ?_); refine with_tabW trigauto_Compile.tab8 trigauto_Compile.bits8 (fun HT_ HW_ => ?_)
       generalize w25.drew = w26 at HO_7 BK128 BK129 BK130 BK135 HB hHeld ⊢
       refine pure_ (i := 0) (N := some 25) (v := ?_) (a' := ?_) (bsq 1 10) rfl rfl (any_of HT_.out (by kernel_rfl)) (fun _ _ _ h => h) (Or.inl ⟨by rfl, ?_⟩) ?_ ?_
       rotate_left
       ·
        intro w'
        go_simp
        with_reducible rfl
       rotate_left
       ·
        simp only [Act.put, List.setIfInBounds_toArray, List.set_cons_zero, List.set_cons_succ, i64_w, i32_w]
        rfl
       refine pure_ (i := 4) (N := some 29) (v := ?_) (a' := ?_) #[true, false, false, false, true, false, false, false, false, false, false] rfl rfl (any_of HT_.out (by kernel_rfl)) (fun _ _ _ h => h) (Or.inl ⟨by rfl, ?_⟩) ?_ ?_
       rotate_left
       ·
        intro w'
        go_simp
        with_reducible rfl
       rotate_left
       ·
        simp only [Act.put, List.setIfInBounds_toArray, List.set_cons_zero, List.set_cons_succ, i64_w, i32_w]
        rfl
       refine pure_ (i := 6) (N := some 31) (v := ?_) (a' := ?_) #[true, false, false, false, true, false, true, false, false, false, false] rfl rfl (any_of HT_.out (by kernel_rfl)) (fun _ _ _ h => h) (Or.inl ⟨by rfl, ?_⟩) ?_ ?_
       rotate_left
       ·
        intro w'
        go_simp
        with_reducible rfl
       rotate_left
       ·
        simp only [Act.put, List.setIfInBounds_toArray, List.set_cons_zero, List.set_cons_succ, i64_w, i32_w]
        rfl
       refine take_ (i := 1) (N := some 26) (v := ?_) (a' := ?_) #[true, true, false, false, true, false, true, false, false, false, false] rfl rfl (take_ofW HT_.out HW_.out (by kernel_rfl)) (fun _ _ _ h => h) (Or.inl ⟨by rfl, ?_⟩) hHeld ?_ ?_
       rotate_left
       ·
        rintro w' ⟨s0, s1, s2, s3, s4, s5, s6, s7, s8, s9, s10, s11, s12, s13, s14⟩
        go_simp
        with_reducible rfl
       rotate_left
       ·
        simp only [Act.put, List.setIfInBounds_toArray, List.set_cons_zero, List.set_cons_succ, i64_w, i32_w]
        rfl
       refine take_ (i := 2) (N := some 27) (v := ?_) (a' := ?_) #[true, true, true, false, true, false, true, false, false, false, false] rfl rfl (take_ofW HT_.out HW_.out (by kernel_rfl)) (fun _ _ _ h => h) (Or.inl ⟨by rfl, ?_⟩) hHeld ?_ ?_
       rotate_left
       ·
        rintro w' ⟨s0, s1, s2, s3, s4, s5, s6, s7, s8, s9, s10, s11, s12, s13, s14⟩
        go_simp
        with_reducible rfl
       rotate_left
       ·
        simp only [Act.put, List.setIfInBounds_toArray, List.set_cons_zero, List.set_cons_succ, i64_w, i32_w]
        rfl
       refine take_ (i := 5) (N := some 30) (v := ?_) (a' := ?_) #[true, true, true, false, true, true, true, false, false, false, false] rfl rfl (take_ofW HT_.out HW_.out (by kernel_rfl)) (fun _ _ _ h => h) (Or.inl ⟨by rfl, ?_⟩) hHeld ?_ ?_
       rotate_left
       ·
        rintro w' ⟨s0, s1, s2, s3, s4, s5, s6, s7, s8, s9, s10, s11, s12, s13, s14⟩
        go_simp
        with_reducible rfl
       rotate_left
       ·
        simp only [Act.put, List.setIfInBounds_toArray, List.set_cons_zero, List.set_cons_succ, i64_w, i32_w]
        rfl
       refine take_ (i := 7) (N := some 32) (v := ?_) (a' := ?_) #[true, true, true, false, true, true, true, true, false, false, false] rfl rfl (take_ofW HT_.out HW_.out (by kernel_rfl)) (fun _ _ _ h => h) (Or.inl ⟨by rfl, ?_⟩) hHeld ?_ ?_
       rotate_left
       ·
        rintro w' ⟨s0, s1, s2, s3, s4, s5, s6, s7, s8, s9, s10, s11, s12, s13, s14⟩
        go_simp
        with_reducible rfl
       rotate_left
       ·
        simp only [Act.put, List.setIfInBounds_toArray, List.set_cons_zero, List.set_cons_succ, i64_w, i32_w]
        rfl
       refine join_ (σ := Nat) 1 (bsq 10 1) (fun s_ => [(28, .agg #[.int .i64 t136, .int .i64 t137, .int .i64 t138, .int .i64 t139, .int .i64 t140]), (10, .pointer (some ⟨s_, 0, none⟩)), (33, .agg #[.int .i64 t136, .int .i64 t137, .int .i64 t138, .int .i64 t139, .int .i64 t140, .int .i64 ((rd_T64 l0_1 x21_1).f2), .bool ((rd_T64 l0_1 x21_1).f3), .int .i64 0, .int .i64 0, .int .i64 0, .int .i64 0, .int .i64 0])]) (fun s_ w' => (w'.cell? ⟨gb135, 0, none⟩ = some (.string ((rd_T64 l0_1 x21_1).f0.f0)) ∧ w'.cell? ⟨gb135, 1, none⟩ = some (.int .i64 ((rd_T64 l0_1 x21_1).f0.f1)) ∧ w'.cell? ⟨gb135, 2, none⟩ = some (.int .i64 ((rd_T64 l0_1 x21_1).f0.f2)) ∧ w'.cell? ⟨gb135, 3, none⟩ = some (.int .i64 ((rd_T64 l0_1 x21_1).f0.f3)) ∧ w'.cell? ⟨gb135, 4, none⟩ = some (.int .i64 ((rd_T64 l0_1 x21_1).f0.f4)) ∧ w'.cell? ⟨gb135, 5, none⟩ = some (.int .i64 ((rd_T64 l0_1 x21_1).f1)) ∧ w'.cell? ⟨gb135, 6, none⟩ = some (.int .i64 ((rd_T64 l0_1 x21_1).f2)) ∧ w'.cell? ⟨gb135, 7, none⟩ = some (.bool ((rd_T64 l0_1 x21_1).f3)) ∧ w'.cell? ⟨gb135, 8, none⟩ = some (.string ((rd_T64 l0_1 x21_1).f4.f0)) ∧ w'.cell? ⟨gb135, 9, none⟩ = some (.int .i64 ((rd_T64 l0_1 x21_1).f4.f1)) ∧ w'.cell? ⟨gb135, 10, none⟩ = some (.int .i64 ((rd_T64 l0_1 x21_1).f4.f2)) ∧ w'.cell? ⟨gb135, 11, none⟩ = some (.int .i64 ((rd_T64 l0_1 x21_1).f4.f3)) ∧ w'.cell? ⟨gb135, 12, none⟩ = some (.int .i64 ((rd_T64 l0_1 x21_1).f4.f4)) ∧ w'.cell? ⟨gb129, 0, none⟩ = some (.slice A1_0 l1_0.length c1_0) ∧ w'.cell? ⟨gb129, 1, none⟩ = some (.slice A1_1 l1_1.length c1_1)) ∧ (Kd.R k50 50 w' w.heap.size (fun k_ => k_ ≠ s_) u7 x7_1) ∧ (w'.heap[gb128]? = some (.cells #[.string a0_0, .slice (some ad134) l0_1.length c0_1] 24 (0, 0))) ∧ (w'.heap[gb129]? = some (.cells #[.slice A1_0 l1_0.length c1_0, .slice A1_1 l1_1.length c1_1] 28 (0, 0))) ∧ (w'.heap[gb130]? = some (.cells #[.slice none 0 0] 31 (0, 0))) ∧ (w'.heap[gb135]? = some (.cells #[.string ((rd_T64 l0_1 x21_1).f0.f0), .int .i64 ((rd_T64 l0_1 x21_1).f0.f1), .int .i64 ((rd_T64 l0_1 x21_1).f0.f2), .int .i64 ((rd_T64 l0_1 x21_1).f0.f3), .int .i64 ((rd_T64 l0_1 x21_1).f0.f4), .int .i64 ((rd_T64 l0_1 x21_1).f1), .int .i64 ((rd_T64 l0_1 x21_1).f2), .bool ((rd_T64 l0_1 x21_1).f3), .string ((rd_T64 l0_1 x21_1).f4.f0), .int .i64 ((rd_T64 l0_1 x21_1).f4.f1), .int .i64 ((rd_T64 l0_1 x21_1).f4.f2), .int .i64 ((rd_T64 l0_1 x21_1).f4.f3), .int .i64 ((rd_T64 l0_1 x21_1).f4.f4)] 64 (0, 0))) ∧ (w'.heap[s_]? = some (.cells #[.int .i64 0, .int .i64 0, .int .i64 0, .int .i64 0, .int .i64 0, .int .i64 0, .bool false, .int .i64 0, .int .i64 0, .int .i64 0, .int .i64 0, .int .i64 0] 50 (0, 0))) ∧ (w.heap.size ≤ s_) ∧ (w.heap.size ≤ s_) ∧ (gb128 ≠ s_) ∧ (s_ ≠ gb128) ∧ (gb129 ≠ s_) ∧ (s_ ≠ gb129) ∧ (gb130 ≠ s_) ∧ (s_ ≠ gb130) ∧ (gb135 ≠ s_) ∧ (s_ ≠ gb135) ∧ (Below w.heap.size w w')) ?_ ?_
       rotate_left
       ·
        intro hCont
        refine two_ (i := 3) (j := 9) (Ni := some 28) (Nj := some 10) (bsq 8 3) #[true, true, true, false, true, true, true, true, false, true, false] rfl rfl rfl rfl (two_of HT_.out (by kernel_rfl)) (by decide) (by decide) (fun K hK => ?_) (fun K hK => ?_)
        ·
         skip
         refine goes_ Try.func39 (by kernel_rfl) rfl #[.agg #[.string ((rd_T64 l0_1 x21_1).f0.f0), .int .i64 ((rd_T64 l0_1 x21_1).f0.f1), .int .i64 ((rd_T64 l0_1 x21_1).f0.f2), .int .i64 ((rd_T64 l0_1 x21_1).f0.f3), .int .i64 ((rd_T64 l0_1 x21_1).f0.f4)], .agg #[.slice A1_0 l1_0.length c1_0, .slice A1_1 l1_1.length c1_1]] (by rfl) rfl rfl (by (try simp only [List.map_toArray, List.map_cons, List.map_nil]); first | done | rfl | (simp only [List.length_drop, List.length_take]; rfl)) ?_
         with_reducible refine (trigauto_compiled.calls ((rd_T64 l0_1 x21_1).f0.f0) ((rd_T64 l0_1 x21_1).f0.f1) ((rd_T64 l0_1 x21_1).f0.f2) ((rd_T64 l0_1 x21_1).f0.f3) ((rd_T64 l0_1 x21_1).f0.f4) _ _ l1_0 _ _ l1_1 t136 t137 t138 t139 t140 _ ?side1 ?side2 ?side3 ?side4 A18.out).mono ?_
         (case side1 => repeat (first | exact (Kd.C_below HR1_0.out HB.out) | (with_reducible refine Kd.C_alloc ?_ _) | (with_reducible refine Kd.C_drewN ?_ _) | (with_reducible refine Kd.C_drew ?_)))
         (case side2 => exact HC1_0.out)
         (case side3 => repeat (first | exact (Kd.C_below HR1_1.out HB.out) | (with_reducible refine Kd.C_alloc ?_ _) | (with_reducible refine Kd.C_drewN ?_ _) | (with_reducible refine Kd.C_drew ?_)))
         (case side4 => exact HC1_1.out)
         rintro e w27 ⟨rfl, hb⟩
         refine ⟨_, rfl, ?_⟩
         have n0_ := Aside0.mk (Kd.R_below (by (with_reducible repeat (first | apply Kd.R_alloc | apply Kd.R_drewN | apply Kd.R_drew)); exact HO_7.out) hb)
         have n1_ := Aside0.mk (blk_below (bg BK128.out) hb)
         have n2_ := Aside0.mk (blk_below (bg BK129.out) hb)
         have n3_ := Aside0.mk (blk_below (bg BK130.out) hb)
         have n4_ := Aside0.mk (blk_below (bg BK135.out) hb)
         have n5_ := Aside0.mk (below_step (bs HB.out) hb)
         clear HO_7
         clear BK128
         clear BK129
         clear BK130
         clear BK135
         clear HB
         have HO_7 := n0_
         have BK128 := n1_
         have BK129 := n2_
         have BK130 := n3_
         have BK135 := n4_
         have HB := n5_
         clear n0_ n1_ n2_ n3_ n4_ n5_
         (try clear hb)
         (try clear hb2)
         (try clear hk)
         (try clear hi)
         refine hK.out _ _ ⟨(blk_cell BK135.out 0).trans rfl, (blk_cell BK135.out 1).trans rfl, (blk_cell BK135.out 2).trans rfl, (blk_cell BK135.out 3).trans rfl, (blk_cell BK135.out 4).trans rfl, (blk_cell BK135.out 5).trans rfl, (blk_cell BK135.out 6).trans rfl, (blk_cell BK135.out 7).trans rfl, (blk_cell BK135.out 8).trans rfl, (blk_cell BK135.out 9).trans rfl, (blk_cell BK135.out 10).trans rfl, (blk_cell BK135.out 11).trans rfl, (blk_cell BK135.out 12).trans rfl, (blk_cell BK129.out 0).trans rfl, (blk_cell BK129.out 1).trans rfl⟩ (fun hHeld => ?_)
         clear hK K
         refine norm_ (a' := ?_) ?_ ?_
         rotate_left
         ·
          show Act.put _ (some 28) _ = _
          simp only [Act.put, List.setIfInBounds_toArray, List.set_cons_zero, List.set_cons_succ, i64_w, i32_w]
          rfl
         refine pure_ (i := 8) (N := some 33) (v := ?_) (a' := ?_) (bsq 9 2) rfl rfl (any_of HT_.out (by kernel_rfl)) (fun _ _ _ h => h) (Or.inl ⟨by rfl, ?_⟩) ?_ ?_
         rotate_left
         ·
          intro w'
          go_simp
          with_reducible rfl
         rotate_left
         ·
          simp only [Act.put, List.setIfInBounds_toArray, List.set_cons_zero, List.set_cons_succ, i64_w, i32_w]
          rfl
         refine one_ (i := 9) (N := some 10) (bsq 10 1) rfl rfl (one_of HT_.out (by kernel_rfl)) (by decide) (fun K hK => ?_)
         refine box_step ?hg (N := 10) ?hd (cs := #[.int .i64 0, .int .i64 0, .int .i64 0, .int .i64 0, .int .i64 0, .int .i64 0, .bool false, .int .i64 0, .int .i64 0, .int .i64 0, .int .i64 0, .int .i64 0]) (t := 50) ?hr ?_; (case hd => rfl); (case hg => rfl); (case hr => first | (go_simp; done) | (go_simp; rfl))
         intro gb141 hg w28 hbox hb
         have n0_ := Aside0.mk (Kd.R_below (Kd.R_elderB (by (with_reducible repeat (first | apply Kd.R_alloc | apply Kd.R_drewN | apply Kd.R_drew)); exact HO_7.out) gb141 (Nat.le_of_eq hg.symm)) hb)
         have n1_ := Aside0.mk (blk_below (bg BK128.out) hb)
         have n2_ := Aside0.mk (blk_below (bg BK129.out) hb)
         have n3_ := Aside0.mk (blk_below (bg BK130.out) hb)
         have n4_ := Aside0.mk (blk_below (bg BK135.out) hb)
         have n5_ := Aside0.mk (below_step (bs HB.out) hb)
         have n6_ := Aside0.mk (hbox)
         have n7_ := Aside0.mk ((by rw [hg]; exact (below_size (bs HB.out)) : w.heap.size ≤ gb141))
         have n8_ := Aside0.mk ((by rw [hg]; exact (below_size (bs HB.out)) : w.heap.size ≤ gb141))
         have n9_ := Aside0.mk ((by rw [hg]; exact Nat.ne_of_lt (blk_lt (bg BK128.out)) : gb128 ≠ gb141))
         have n10_ := Aside0.mk ((by rw [hg]; exact Nat.ne_of_gt (blk_lt (bg BK128.out)) : gb141 ≠ gb128))
         have n11_ := Aside0.mk ((by rw [hg]; exact Nat.ne_of_lt (blk_lt (bg BK129.out)) : gb129 ≠ gb141))
         have n12_ := Aside0.mk ((by rw [hg]; exact Nat.ne_of_gt (blk_lt (bg BK129.out)) : gb141 ≠ gb129))
         have n13_ := Aside0.mk ((by rw [hg]; exact Nat.ne_of_lt (blk_lt (bg BK130.out)) : gb130 ≠ gb141))
         have n14_ := Aside0.mk ((by rw [hg]; exact Nat.ne_of_gt (blk_lt (bg BK130.out)) : gb141 ≠ gb130))
         have n15_ := Aside0.mk ((by rw [hg]; exact Nat.ne_of_lt (blk_lt (bg BK135.out)) : gb135 ≠ gb141))
         have n16_ := Aside0.mk ((by rw [hg]; exact Nat.ne_of_gt (blk_lt (bg BK135.out)) : gb141 ≠ gb135))
         clear HO_7
         clear BK128
         clear BK129
         clear BK130
         clear BK135
         clear HB
         have HO_7 := n0_
         have BK128 := n1_
         have BK129 := n2_
         have BK130 := n3_
         have BK135 := n4_
         have HB := n5_
         have BK141 := n6_
         have GW141 := n7_
         have GE141 := n8_
         have NB128_141 := n9_
         have NB141_128 := n10_
         have NB129_141 := n11_
         have NB141_129 := n12_
         have NB130_141 := n13_
         have NB141_130 := n14_
         have NB135_141 := n15_
         have NB141_135 := n16_
         clear n0_ n1_ n2_ n3_ n4_ n5_ n6_ n7_ n8_ n9_ n10_ n11_ n12_ n13_ n14_ n15_ n16_
         clear hb hbox hg
         refine hK.out _ _ ⟨(blk_cell BK135.out 0).trans rfl, (blk_cell BK135.out 1).trans rfl, (blk_cell BK135.out 2).trans rfl, (blk_cell BK135.out 3).trans rfl, (blk_cell BK135.out 4).trans rfl, (blk_cell BK135.out 5).trans rfl, (blk_cell BK135.out 6).trans rfl, (blk_cell BK135.out 7).trans rfl, (blk_cell BK135.out 8).trans rfl, (blk_cell BK135.out 9).trans rfl, (blk_cell BK135.out 10).trans rfl, (blk_cell BK135.out 11).trans rfl, (blk_cell BK135.out 12).trans rfl, (blk_cell BK129.out 0).trans rfl, (blk_cell BK129.out 1).trans rfl⟩ (fun hHeld => ?_)
         clear hK K
         refine norm_ (a' := ?_) ?_ ?_
         rotate_left
         ·
          show Act.put _ (some 10) _ = _
          simp only [Act.put, List.setIfInBounds_toArray, List.set_cons_zero, List.set_cons_succ, i64_w, i32_w]
          rfl
         exact norm_ (by simp only [putAll, Act.put, List.setIfInBounds_toArray, List.set_cons_zero, List.set_cons_succ]) (hCont (gb141) _ ⟨hHeld, (by (with_reducible repeat (first | apply Kd.R_alloc | apply Kd.R_drewN | apply Kd.R_drew)); exact Kd.R_mono HO_7.out (fun _ hk => hk.2)), (bg BK128.out), (bg BK129.out), (bg BK130.out), (bg BK135.out), (bg BK141.out), GW141.out, GE141.out, NB128_141.out, NB141_128.out, NB129_141.out, NB141_129.out, NB130_141.out, NB141_130.out, NB135_141.out, NB141_135.out, (bs HB.out)⟩)
        ·
         skip
         refine box_step ?hg (N := 10) ?hd (cs := #[.int .i64 0, .int .i64 0, .int .i64 0, .int .i64 0, .int .i64 0, .int .i64 0, .bool false, .int .i64 0, .int .i64 0, .int .i64 0, .int .i64 0, .int .i64 0]) (t := 50) ?hr ?_; (case hd => rfl); (case hg => rfl); (case hr => first | (go_simp; done) | (go_simp; rfl))
         intro gb141 hg w27 hbox hb
         have n0_ := Aside0.mk (Kd.R_below (Kd.R_elderB (by (with_reducible repeat (first | apply Kd.R_alloc | apply Kd.R_drewN | apply Kd.R_drew)); exact HO_7.out) gb141 (Nat.le_of_eq hg.symm)) hb)
         have n1_ := Aside0.mk (blk_below (bg BK128.out) hb)
         have n2_ := Aside0.mk (blk_below (bg BK129.out) hb)
         have n3_ := Aside0.mk (blk_below (bg BK130.out) hb)
         have n4_ := Aside0.mk (blk_below (bg BK135.out) hb)
         have n5_ := Aside0.mk (below_step (bs HB.out) hb)
         have n6_ := Aside0.mk (hbox)
         have n7_ := Aside0.mk ((by rw [hg]; exact (below_size (bs HB.out)) : w.heap.size ≤ gb141))
         have n8_ := Aside0.mk ((by rw [hg]; exact (below_size (bs HB.out)) : w.heap.size ≤ gb141))
         have n9_ := Aside0.mk ((by rw [hg]; exact Nat.ne_of_lt (blk_lt (bg BK128.out)) : gb128 ≠ gb141))
         have n10_ := Aside0.mk ((by rw [hg]; exact Nat.ne_of_gt (blk_lt (bg BK128.out)) : gb141 ≠ gb128))
         have n11_ := Aside0.mk ((by rw [hg]; exact Nat.ne_of_lt (blk_lt (bg BK129.out)) : gb129 ≠ gb141))
         have n12_ := Aside0.mk ((by rw [hg]; exact Nat.ne_of_gt (blk_lt (bg BK129.out)) : gb141 ≠ gb129))
         have n13_ := Aside0.mk ((by rw [hg]; exact Nat.ne_of_lt (blk_lt (bg BK130.out)) : gb130 ≠ gb141))
         have n14_ := Aside0.mk ((by rw [hg]; exact Nat.ne_of_gt (blk_lt (bg BK130.out)) : gb141 ≠ gb130))
         have n15_ := Aside0.mk ((by rw [hg]; exact Nat.ne_of_lt (blk_lt (bg BK135.out)) : gb135 ≠ gb141))
         have n16_ := Aside0.mk ((by rw [hg]; exact Nat.ne_of_gt (blk_lt (bg BK135.out)) : gb141 ≠ gb135))
         clear HO_7
         clear BK128
         clear BK129
         clear BK130
         clear BK135
         clear HB
         have HO_7 := n0_
         have BK128 := n1_
         have BK129 := n2_
         have BK130 := n3_
         have BK135 := n4_
         have HB := n5_
         have BK141 := n6_
         have GW141 := n7_
         have GE141 := n8_
         have NB128_141 := n9_
         have NB141_128 := n10_
         have NB129_141 := n11_
         have NB141_129 := n12_
         have NB130_141 := n13_
         have NB141_130 := n14_
         have NB135_141 := n15_
         have NB141_135 := n16_
         clear n0_ n1_ n2_ n3_ n4_ n5_ n6_ n7_ n8_ n9_ n10_ n11_ n12_ n13_ n14_ n15_ n16_
         clear hb hbox hg
         refine hK.out _ _ ⟨(blk_cell BK135.out 0).trans rfl, (blk_cell BK135.out 1).trans rfl, (blk_cell BK135.out 2).trans rfl, (blk_cell BK135.out 3).trans rfl, (blk_cell BK135.out 4).trans rfl, (blk_cell BK135.out 5).trans rfl, (blk_cell BK135.out 6).trans rfl, (blk_cell BK135.out 7).trans rfl, (blk_cell BK135.out 8).trans rfl, (blk_cell BK135.out 9).trans rfl, (blk_cell BK135.out 10).trans rfl, (blk_cell BK135.out 11).trans rfl, (blk_cell BK135.out 12).trans rfl, (blk_cell BK129.out 0).trans rfl, (blk_cell BK129.out 1).trans rfl⟩ (fun hHeld => ?_)
         clear hK K
         refine norm_ (a' := ?_) ?_ ?_
         rotate_left
         ·
          show Act.put _ (some 10) _ = _
          simp only [Act.put, List.setIfInBounds_toArray, List.set_cons_zero, List.set_cons_succ, i64_w, i32_w]
          rfl
         refine one_ (i := 3) (N := some 28) #[true, true, true, true, true, true, true, true, false, true, false] rfl rfl (one_of HT_.out (by kernel_rfl)) (by decide) (fun K hK => ?_)
         refine goes_ Try.func39 (by kernel_rfl) rfl #[.agg #[.string ((rd_T64 l0_1 x21_1).f0.f0), .int .i64 ((rd_T64 l0_1 x21_1).f0.f1), .int .i64 ((rd_T64 l0_1 x21_1).f0.f2), .int .i64 ((rd_T64 l0_1 x21_1).f0.f3), .int .i64 ((rd_T64 l0_1 x21_1).f0.f4)], .agg #[.slice A1_0 l1_0.length c1_0, .slice A1_1 l1_1.length c1_1]] (by rfl) rfl rfl (by (try simp only [List.map_toArray, List.map_cons, List.map_nil]); first | done | rfl | (simp only [List.length_drop, List.length_take]; rfl)) ?_
         with_reducible refine (trigauto_compiled.calls ((rd_T64 l0_1 x21_1).f0.f0) ((rd_T64 l0_1 x21_1).f0.f1) ((rd_T64 l0_1 x21_1).f0.f2) ((rd_T64 l0_1 x21_1).f0.f3) ((rd_T64 l0_1 x21_1).f0.f4) _ _ l1_0 _ _ l1_1 t136 t137 t138 t139 t140 _ ?side1 ?side2 ?side3 ?side4 A18.out).mono ?_
         (case side1 => repeat (first | exact (Kd.C_below HR1_0.out HB.out) | (with_reducible refine Kd.C_alloc ?_ _) | (with_reducible refine Kd.C_drewN ?_ _) | (with_reducible refine Kd.C_drew ?_)))
         (case side2 => exact HC1_0.out)
         (case side3 => repeat (first | exact (Kd.C_below HR1_1.out HB.out) | (with_reducible refine Kd.C_alloc ?_ _) | (with_reducible refine Kd.C_drewN ?_ _) | (with_reducible refine Kd.C_drew ?_)))
         (case side4 => exact HC1_1.out)
         rintro e w28 ⟨rfl, hb⟩
         refine ⟨_, rfl, ?_⟩
         have n0_ := Aside0.mk (Kd.R_below (by (with_reducible repeat (first | apply Kd.R_alloc | apply Kd.R_drewN | apply Kd.R_drew)); exact HO_7.out) hb)
         have n1_ := Aside0.mk (blk_below (bg BK128.out) hb)
         have n2_ := Aside0.mk (blk_below (bg BK129.out) hb)
         have n3_ := Aside0.mk (blk_below (bg BK130.out) hb)
         have n4_ := Aside0.mk (blk_below (bg BK135.out) hb)
         have n5_ := Aside0.mk (blk_below (bg BK141.out) hb)
         have n6_ := Aside0.mk (below_step (bs HB.out) hb)
         clear HO_7
         clear BK128
         clear BK129
         clear BK130
         clear BK135
         clear BK141
         clear HB
         have HO_7 := n0_
         have BK128 := n1_
         have BK129 := n2_
         have BK130 := n3_
         have BK135 := n4_
         have BK141 := n5_
         have HB := n6_
         clear n0_ n1_ n2_ n3_ n4_ n5_ n6_
         (try clear hb)
         (try clear hb2)
         (try clear hk)
         (try clear hi)
         refine hK.out _ _ ⟨(blk_cell BK135.out 0).trans rfl, (blk_cell BK135.out 1).trans rfl, (blk_cell BK135.out 2).trans rfl, (blk_cell BK135.out 3).trans rfl, (blk_cell BK135.out 4).trans rfl, (blk_cell BK135.out 5).trans rfl, (blk_cell BK135.out 6).trans rfl, (blk_cell BK135.out 7).trans rfl, (blk_cell BK135.out 8).trans rfl, (blk_cell BK135.out 9).trans rfl, (blk_cell BK135.out 10).trans rfl, (blk_cell BK135.out 11).trans rfl, (blk_cell BK135.out 12).trans rfl, (blk_cell BK129.out 0).trans rfl, (blk_cell BK129.out 1).trans rfl⟩ (fun hHeld => ?_)
         clear hK K
         refine norm_ (a' := ?_) ?_ ?_
         rotate_left
         ·
          show Act.put _ (some 28) _ = _
          simp only [Act.put, List.setIfInBounds_toArray, List.set_cons_zero, List.set_cons_succ, i64_w, i32_w]
          rfl
         refine pure_ (i := 8) (N := some 33) (v := ?_) (a' := ?_) (bsq 10 1) rfl rfl (any_of HT_.out (by kernel_rfl)) (fun _ _ _ h => h) (Or.inl ⟨by rfl, ?_⟩) ?_ ?_
         rotate_left
         ·
          intro w'
          go_simp
          with_reducible rfl
         rotate_left
         ·
          simp only [Act.put, List.setIfInBounds_toArray, List.set_cons_zero, List.set_cons_succ, i64_w, i32_w]
          rfl
         exact norm_ (by simp only [putAll, Act.put, List.setIfInBounds_toArray, List.set_cons_zero, List.set_cons_succ]) (hCont (gb141) _ ⟨hHeld, (by (with_reducible repeat (first | apply Kd.R_alloc | apply Kd.R_drewN | apply Kd.R_drew)); exact Kd.R_mono HO_7.out (fun _ hk => hk.2)), (bg BK128.out), (bg BK129.out), (bg BK130.out), (bg BK135.out), (bg BK141.out), GW141.out, GE141.out, NB128_141.out, NB141_128.out, NB129_141.out, NB141_129.out, NB130_141.out, NB141_130.out, NB135_141.out, NB141_135.out, (bs HB.out)⟩)
       rintro gb141 w29 ⟨hS_, h0_, h1_, h2_, h3_, h4_, h5_, h6_, h7_, h8_, h9_, h10_, h11_, h12_, h13_, h14_, h15_, h16_⟩
       have n0_ : Aside0 (Kd.R k50 50 w29 w.heap.size (fun k_ => k_ ≠ gb141) u7 x7_1) := ⟨h0_⟩
       have n1_ : Aside0 (w29.heap[gb128]? = some (.cells #[.string a0_0, .slice (some ad134) l0_1.length c0_1] 24 (0, 0))) := ⟨h1_⟩
       have n2_ : Aside0 (w29.heap[gb129]? = some (.cells #[.slice A1_0 l1_0.length c1_0, .slice A1_1 l1_1.length c1_1] 28 (0, 0))) := ⟨h2_⟩
       have n3_ : Aside0 (w29.heap[gb130]? = some (.cells #[.slice none 0 0] 31 (0, 0))) := ⟨h3_⟩
       have n4_ : Aside0 (w29.heap[gb135]? = some (.cells #[.string ((rd_T64 l0_1 x21_1).f0.f0), .int .i64 ((rd_T64 l0_1 x21_1).f0.f1), .int .i64 ((rd_T64 l0_1 x21_1).f0.f2), .int .i64 ((rd_T64 l0_1 x21_1).f0.f3), .int .i64 ((rd_T64 l0_1 x21_1).f0.f4), .int .i64 ((rd_T64 l0_1 x21_1).f1), .int .i64 ((rd_T64 l0_1 x21_1).f2), .bool ((rd_T64 l0_1 x21_1).f3), .string ((rd_T64 l0_1 x21_1).f4.f0), .int .i64 ((rd_T64 l0_1 x21_1).f4.f1), .int .i64 ((rd_T64 l0_1 x21_1).f4.f2), .int .i64 ((rd_T64 l0_1 x21_1).f4.f3), .int .i64 ((rd_T64 l0_1 x21_1).f4.f4)] 64 (0, 0))) := ⟨h4_⟩
       have n5_ : Aside0 (w29.heap[gb141]? = some (.cells #[.int .i64 0, .int .i64 0, .int .i64 0, .int .i64 0, .int .i64 0, .int .i64 0, .bool false, .int .i64 0, .int .i64 0, .int .i64 0, .int .i64 0, .int .i64 0] 50 (0, 0))) := ⟨h5_⟩
       have n6_ : Aside0 (w.heap.size ≤ gb141) := ⟨h6_⟩
       have n7_ : Aside0 (w.heap.size ≤ gb141) := ⟨h7_⟩
       have n8_ : Aside0 (gb128 ≠ gb141) := ⟨h8_⟩
       have n9_ : Aside0 (gb141 ≠ gb128) := ⟨h9_⟩
       have n10_ : Aside0 (gb129 ≠ gb141) := ⟨h10_⟩
       have n11_ : Aside0 (gb141 ≠ gb129) := ⟨h11_⟩
       have n12_ : Aside0 (gb130 ≠ gb141) := ⟨h12_⟩
       have n13_ : Aside0 (gb141 ≠ gb130) := ⟨h13_⟩
       have n14_ : Aside0 (gb135 ≠ gb141) := ⟨h14_⟩
       have n15_ : Aside0 (gb141 ≠ gb135) := ⟨h15_⟩
       have n16_ : Aside0 (Below w.heap.size w w29) := ⟨h16_⟩
       clear HO_7
       clear BK128
       clear BK129
       clear BK130
       clear BK135
       clear HB
       clear h0_ h1_ h2_ h3_ h4_ h5_ h6_ h7_ h8_ h9_ h10_ h11_ h12_ h13_ h14_ h15_ h16_
       have HO_7 := n0_
       have BK128 := n1_
       have BK129 := n2_
       have BK130 := n3_
       have BK135 := n4_
       have BK141 := n5_
       have GW141 := n6_
       have GE141 := n7_
       have NB128_141 := n8_
       have NB141_128 := n9_
       have NB129_141 := n10_
       have NB141_129 := n11_
       have NB130_141 := n12_
       have NB141_130 := n13_
       have NB135_141 := n14_
       have NB141_135 := n15_
       have HB := n16_
       clear n0_ n1_ n2_ n3_ n4_ n5_ n6_ n7_ n8_ n9_ n10_ n11_ n12_ n13_ n14_ n15_ n16_
       have hHeld : w29.cell? ⟨gb135, 0, none⟩ = some (.string ((rd_T64 l0_1 x21_1).f0.f0)) ∧ w29.cell? ⟨gb135, 1, none⟩ = some (.int .i64 ((rd_T64 l0_1 x21_1).f0.f1)) ∧ w29.cell? ⟨gb135, 2, none⟩ = some (.int .i64 ((rd_T64 l0_1 x21_1).f0.f2)) ∧ w29.cell? ⟨gb135, 3, none⟩ = some (.int .i64 ((rd_T64 l0_1 x21_1).f0.f3)) ∧ w29.cell? ⟨gb135, 4, none⟩ = some (.int .i64 ((rd_T64 l0_1 x21_1).f0.f4)) ∧ w29.cell? ⟨gb135, 5, none⟩ = some (.int .i64 ((rd_T64 l0_1 x21_1).f1)) ∧ w29.cell? ⟨gb135, 6, none⟩ = some (.int .i64 ((rd_T64 l0_1 x21_1).f2)) ∧ w29.cell? ⟨gb135, 7, none⟩ = some (.bool ((rd_T64 l0_1 x21_1).f3)) ∧ w29.cell? ⟨gb135, 8, none⟩ = some (.string ((rd_T64 l0_1 x21_1).f4.f0)) ∧ w29.cell? ⟨gb135, 9, none⟩ = some (.int .i64 ((rd_T64 l0_1 x21_1).f4.f1)) ∧ w29.cell? ⟨gb135, 10, none⟩ = some (.int .i64 ((rd_T64 l0_1 x21_1).f4.f2)) ∧ w29.cell? ⟨gb135, 11, none⟩ = some (.int .i64 ((rd_T64 l0_1 x21_1).f4.f3)) ∧ w29.cell? ⟨gb135, 12, none⟩ = some (.int .i64 ((rd_T64 l0_1 x21_1).f4.f4)) ∧ w29.cell? ⟨gb129, 0, none⟩ = some (.slice A1_0 l1_0.length c1_0) ∧ w29.cell? ⟨gb129, 1, none⟩ = some (.slice A1_1 l1_1.length c1_1) := hS_
       refine norm_ (a' := ?_) ?_ ?_
       rotate_left
       ·
        simp only [putAll, Act.put, List.setIfInBounds_toArray, List.set_cons_zero, List.set_cons_succ]
        rfl
       refine one_ (i := 10) (N := none) (bsq 11 0) rfl rfl (one_of HT_.out (by kernel_rfl)) (by decide) (fun K hK => ?_)
       have hs30 : w29.cell? ⟨gb141, 0, none⟩ = some (.int .i64 0) := (blk_cell BK141.out 0).trans rfl
       have hfs30 := blk_frozen BK141.out 0
       have hns30_0 := NB128_141.out
       have hns30_1 := NB129_141.out
       have hns30_2 := NB130_141.out
       have hns30_3 := NB135_141.out
       have hms30_0 := NB141_128.out
       have hms30_1 := NB141_129.out
       have hms30_2 := NB141_130.out
       have hms30_3 := NB141_135.out
       have hs31 : w29.cell? ⟨gb141, 1, none⟩ = some (.int .i64 0) := (blk_cell BK141.out 1).trans rfl
       have hfs31 := blk_frozen BK141.out 1
       have hns31_0 := NB128_141.out
       have hns31_1 := NB129_141.out
       have hns31_2 := NB130_141.out
       have hns31_3 := NB135_141.out
       have hms31_0 := NB141_128.out
       have hms31_1 := NB141_129.out
       have hms31_2 := NB141_130.out
       have hms31_3 := NB141_135.out
       have hs32 : w29.cell? ⟨gb141, 2, none⟩ = some (.int .i64 0) := (blk_cell BK141.out 2).trans rfl
       have hfs32 := blk_frozen BK141.out 2
       have hns32_0 := NB128_141.out
       have hns32_1 := NB129_141.out
       have hns32_2 := NB130_141.out
       have hns32_3 := NB135_141.out
       have hms32_0 := NB141_128.out
       have hms32_1 := NB141_129.out
       have hms32_2 := NB141_130.out
       have hms32_3 := NB141_135.out
       have hs33 : w29.cell? ⟨gb141, 3, none⟩ = some (.int .i64 0) := (blk_cell BK141.out 3).trans rfl
       have hfs33 := blk_frozen BK141.out 3
       have hns33_0 := NB128_141.out
       have hns33_1 := NB129_141.out
       have hns33_2 := NB130_141.out
       have hns33_3 := NB135_141.out
       have hms33_0 := NB141_128.out
       have hms33_1 := NB141_129.out
       have hms33_2 := NB141_130.out
       have hms33_3 := NB141_135.out
       have hs34 : w29.cell? ⟨gb141, 4, none⟩ = some (.int .i64 0) := (blk_cell BK141.out 4).trans rfl
       have hfs34 := blk_frozen BK141.out 4
       have hns34_0 := NB128_141.out
       have hns34_1 := NB129_141.out
       have hns34_2 := NB130_141.out
       have hns34_3 := NB135_141.out
       have hms34_0 := NB141_128.out
       have hms34_1 := NB141_129.out
       have hms34_2 := NB141_130.out
       have hms34_3 := NB141_135.out
       have hs35 : w29.cell? ⟨gb141, 5, none⟩ = some (.int .i64 0) := (blk_cell BK141.out 5).trans rfl
       have hfs35 := blk_frozen BK141.out 5
       have hns35_0 := NB128_141.out
       have hns35_1 := NB129_141.out
       have hns35_2 := NB130_141.out
       have hns35_3 := NB135_141.out
       have hms35_0 := NB141_128.out
       have hms35_1 := NB141_129.out
       have hms35_2 := NB141_130.out
       have hms35_3 := NB141_135.out
       have hs36 : w29.cell? ⟨gb141, 6, none⟩ = some (.bool false) := (blk_cell BK141.out 6).trans rfl
       have hfs36 := blk_frozen BK141.out 6
       have hns36_0 := NB128_141.out
       have hns36_1 := NB129_141.out
       have hns36_2 := NB130_141.out
       have hns36_3 := NB135_141.out
       have hms36_0 := NB141_128.out
       have hms36_1 := NB141_129.out
       have hms36_2 := NB141_130.out
       have hms36_3 := NB141_135.out
       have hs37 : w29.cell? ⟨gb141, 7, none⟩ = some (.int .i64 0) := (blk_cell BK141.out 7).trans rfl
       have hfs37 := blk_frozen BK141.out 7
       have hns37_0 := NB128_141.out
       have hns37_1 := NB129_141.out
       have hns37_2 := NB130_141.out
       have hns37_3 := NB135_141.out
       have hms37_0 := NB141_128.out
       have hms37_1 := NB141_129.out
       have hms37_2 := NB141_130.out
       have hms37_3 := NB141_135.out
       have hs38 : w29.cell? ⟨gb141, 8, none⟩ = some (.int .i64 0) := (blk_cell BK141.out 8).trans rfl
       have hfs38 := blk_frozen BK141.out 8
       have hns38_0 := NB128_141.out
       have hns38_1 := NB129_141.out
       have hns38_2 := NB130_141.out
       have hns38_3 := NB135_141.out
       have hms38_0 := NB141_128.out
       have hms38_1 := NB141_129.out
       have hms38_2 := NB141_130.out
       have hms38_3 := NB141_135.out
       have hs39 : w29.cell? ⟨gb141, 9, none⟩ = some (.int .i64 0) := (blk_cell BK141.out 9).trans rfl
       have hfs39 := blk_frozen BK141.out 9
       have hns39_0 := NB128_141.out
       have hns39_1 := NB129_141.out
       have hns39_2 := NB130_141.out
       have hns39_3 := NB135_141.out
       have hms39_0 := NB141_128.out
       have hms39_1 := NB141_129.out
       have hms39_2 := NB141_130.out
       have hms39_3 := NB141_135.out
       have hs40 : w29.cell? ⟨gb141, 10, none⟩ = some (.int .i64 0) := (blk_cell BK141.out 10).trans rfl
       have hfs40 := blk_frozen BK141.out 10
       have hns40_0 := NB128_141.out
       have hns40_1 := NB129_141.out
       have hns40_2 := NB130_141.out
       have hns40_3 := NB135_141.out
       have hms40_0 := NB141_128.out
       have hms40_1 := NB141_129.out
       have hms40_2 := NB141_130.out
       have hms40_3 := NB141_135.out
       have hs41 : w29.cell? ⟨gb141, 11, none⟩ = some (.int .i64 0) := (blk_cell BK141.out 11).trans rfl
       have hfs41 := blk_frozen BK141.out 11
       have hns41_0 := NB128_141.out
       have hns41_1 := NB129_141.out
       have hns41_2 := NB130_141.out
       have hns41_3 := NB135_141.out
       have hms41_0 := NB141_128.out
       have hms41_1 := NB141_129.out
       have hms41_2 := NB141_130.out
       have hms41_3 := NB141_135.out
       refine skip_ (w1 := ?_) (by rfl) rfl ?_ ?_
       rotate_left
       ·
        go_simp
        rfl
       refine hK.out _ _ ⟨((cell_far (p := ⟨gb141, _, none⟩) NB135_141.out _).trans (((cell_far (p := ⟨gb141, _, none⟩) NB135_141.out _).trans (((cell_far (p := ⟨gb141, _, none⟩) NB135_141.out _).trans (((cell_far (p := ⟨gb141, _, none⟩) NB135_141.out _).trans (((cell_far (p := ⟨gb141, _, none⟩) NB135_141.out _).trans (((cell_far (p := ⟨gb141, _, none⟩) NB135_141.out _).trans (((cell_far (p := ⟨gb141, _, none⟩) NB135_141.out _).trans (((cell_far (p := ⟨gb141, _, none⟩) NB135_141.out _).trans (((cell_far (p := ⟨gb141, _, none⟩) NB135_141.out _).trans (((cell_far (p := ⟨gb141, _, none⟩) NB135_141.out _).trans (((cell_far (p := ⟨gb141, _, none⟩) NB135_141.out _).trans (((cell_far (p := ⟨gb141, _, none⟩) NB135_141.out _).trans (hHeld.1)))))))))))))))))))))))), ((cell_far (p := ⟨gb141, _, none⟩) NB135_141.out _).trans (((cell_far (p := ⟨gb141, _, none⟩) NB135_141.out _).trans (((cell_far (p := ⟨gb141, _, none⟩) NB135_141.out _).trans (((cell_far (p := ⟨gb141, _, none⟩) NB135_141.out _).trans (((cell_far (p := ⟨gb141, _, none⟩) NB135_141.out _).trans (((cell_far (p := ⟨gb141, _, none⟩) NB135_141.out _).trans (((cell_far (p := ⟨gb141, _, none⟩) NB135_141.out _).trans (((cell_far (p := ⟨gb141, _, none⟩) NB135_141.out _).trans (((cell_far (p := ⟨gb141, _, none⟩) NB135_141.out _).trans (((cell_far (p := ⟨gb141, _, none⟩) NB135_141.out _).trans (((cell_far (p := ⟨gb141, _, none⟩) NB135_141.out _).trans (((cell_far (p := ⟨gb141, _, none⟩) NB135_141.out _).trans (hHeld.2.1)))))))))))))))))))))))), ((cell_far (p := ⟨gb141, _, none⟩) NB135_141.out _).trans (((cell_far (p := ⟨gb141, _, none⟩) NB135_141.out _).trans (((cell_far (p := ⟨gb141, _, none⟩) NB135_141.out _).trans (((cell_far (p := ⟨gb141, _, none⟩) NB135_141.out _).trans (((cell_far (p := ⟨gb141, _, none⟩) NB135_141.out _).trans (((cell_far (p := ⟨gb141, _, none⟩) NB135_141.out _).trans (((cell_far (p := ⟨gb141, _, none⟩) NB135_141.out _).trans (((cell_far (p := ⟨gb141, _, none⟩) NB135_141.out _).trans (((cell_far (p := ⟨gb141, _, none⟩) NB135_141.out _).trans (((cell_far (p := ⟨gb141, _, none⟩) NB135_141.out _).trans (((cell_far (p := ⟨gb141, _, none⟩) NB135_141.out _).trans (((cell_far (p := ⟨gb141, _, none⟩) NB135_141.out _).trans (hHeld.2.2.1)))))))))))))))))))))))), ((cell_far (p := ⟨gb141, _, none⟩) NB135_141.out _).trans (((cell_far (p := ⟨gb141, _, none⟩) NB135_141.out _).trans (((cell_far (p := ⟨gb141, _, none⟩) NB135_141.out _).trans (((cell_far (p := ⟨gb141, _, none⟩) NB135_141.out _).trans (((cell_far (p := ⟨gb141, _, none⟩) NB135_141.out _).trans (((cell_far (p := ⟨gb141, _, none⟩) NB135_141.out _).trans (((cell_far (p := ⟨gb141, _, none⟩) NB135_141.out _).trans (((cell_far (p := ⟨gb141, _, none⟩) NB135_141.out _).trans (((cell_far (p := ⟨gb141, _, none⟩) NB135_141.out _).trans (((cell_far (p := ⟨gb141, _, none⟩) NB135_141.out _).trans (((cell_far (p := ⟨gb141, _, none⟩) NB135_141.out _).trans (((cell_far (p := ⟨gb141, _, none⟩) NB135_141.out _).trans (hHeld.2.2.2.1)))))))))))))))))))))))), ((cell_far (p := ⟨gb141, _, none⟩) NB135_141.out _).trans (((cell_far (p := ⟨gb141, _, none⟩) NB135_141.out _).trans (((cell_far (p := ⟨gb141, _, none⟩) NB135_141.out _).trans (((cell_far (p := ⟨gb141, _, none⟩) NB135_141.out _).trans (((cell_far (p := ⟨gb141, _, none⟩) NB135_141.out _).trans (((cell_far (p := ⟨gb141, _, none⟩) NB135_141.out _).trans (((cell_far (p := ⟨gb141, _, none⟩) NB135_141.out _).trans (((cell_far (p := ⟨gb141, _, none⟩) NB135_141.out _).trans (((cell_far (p := ⟨gb141, _, none⟩) NB135_141.out _).trans (((cell_far (p := ⟨gb141, _, none⟩) NB135_141.out _).trans (((cell_far (p := ⟨gb141, _, none⟩) NB135_141.out _).trans (((cell_far (p := ⟨gb141, _, none⟩) NB135_141.out _).trans (hHeld.2.2.2.2.1)))))))))))))))))))))))), ((cell_far (p := ⟨gb141, _, none⟩) NB135_141.out _).trans (((cell_far (p := ⟨gb141, _, none⟩) NB135_141.out _).trans (((cell_far (p := ⟨gb141, _, none⟩) NB135_141.out _).trans (((cell_far (p := ⟨gb141, _, none⟩) NB135_141.out _).trans (((cell_far (p := ⟨gb141, _, none⟩) NB135_141.out _).trans (((cell_far (p := ⟨gb141, _, none⟩) NB135_141.out _).trans (((cell_far (p := ⟨gb141, _, none⟩) NB135_141.out _).trans (((cell_far (p := ⟨gb141, _, none⟩) NB135_141.out _).trans (((cell_far (p := ⟨gb141, _, none⟩) NB135_141.out _).trans (((cell_far (p := ⟨gb141, _, none⟩) NB135_141.out _).trans (((cell_far (p := ⟨gb141, _, none⟩) NB135_141.out _).trans (((cell_far (p := ⟨gb141, _, none⟩) NB135_141.out _).trans (hHeld.2.2.2.2.2.1)))))))))))))))))))))))), ((cell_far (p := ⟨gb141, _, none⟩) NB135_141.out _).trans (((cell_far (p := ⟨gb141, _, none⟩) NB135_141.out _).trans (((cell_far (p := ⟨gb141, _, none⟩) NB135_141.out _).trans (((cell_far (p := ⟨gb141, _, none⟩) NB135_141.out _).trans (((cell_far (p := ⟨gb141, _, none⟩) NB135_141.out _).trans (((cell_far (p := ⟨gb141, _, none⟩) NB135_141.out _).trans (((cell_far (p := ⟨gb141, _, none⟩) NB135_141.out _).trans (((cell_far (p := ⟨gb141, _, none⟩) NB135_141.out _).trans (((cell_far (p := ⟨gb141, _, none⟩) NB135_141.out _).trans (((cell_far (p := ⟨gb141, _, none⟩) NB135_141.out _).trans (((cell_far (p := ⟨gb141, _, none⟩) NB135_141.out _).trans (((cell_far (p := ⟨gb141, _, none⟩) NB135_141.out _).trans (hHeld.2.2.2.2.2.2.1)))))))))))))))))))))))), ((cell_far (p := ⟨gb141, _, none⟩) NB135_141.out _).trans (((cell_far (p := ⟨gb141, _, none⟩) NB135_141.out _).trans (((cell_far (p := ⟨gb141, _, none⟩) NB135_141.out _).trans (((cell_far (p := ⟨gb141, _, none⟩) NB135_141.out _).trans (((cell_far (p := ⟨gb141, _, none⟩) NB135_141.out _).trans (((cell_far (p := ⟨gb141, _, none⟩) NB135_141.out _).trans (((cell_far (p := ⟨gb141, _, none⟩) NB135_141.out _).trans (((cell_far (p := ⟨gb141, _, none⟩) NB135_141.out _).trans (((cell_far (p := ⟨gb141, _, none⟩) NB135_141.out _).trans (((cell_far (p := ⟨gb141, _, none⟩) NB135_141.out _).trans (((cell_far (p := ⟨gb141, _, none⟩) NB135_141.out _).trans (((cell_far (p := ⟨gb141, _, none⟩) NB135_141.out _).trans (hHeld.2.2.2.2.2.2.2.1)))))))))))))))))))))))), ((cell_far (p := ⟨gb141, _, none⟩) NB135_141.out _).trans (((cell_far (p := ⟨gb141, _, none⟩) NB135_141.out _).trans (((cell_far (p := ⟨gb141, _, none⟩) NB135_141.out _).trans (((cell_far (p := ⟨gb141, _, none⟩) NB135_141.out _).trans (((cell_far (p := ⟨gb141, _, none⟩) NB135_141.out _).trans (((cell_far (p := ⟨gb141, _, none⟩) NB135_141.out _).trans (((cell_far (p := ⟨gb141, _, none⟩) NB135_141.out _).trans (((cell_far (p := ⟨gb141, _, none⟩) NB135_141.out _).trans (((cell_far (p := ⟨gb141, _, none⟩) NB135_141.out _).trans (((cell_far (p := ⟨gb141, _, none⟩) NB135_141.out _).trans (((cell_far (p := ⟨gb141, _, none⟩) NB135_141.out _).trans (((cell_far (p := ⟨gb141, _, none⟩) NB135_141.out _).trans (hHeld.2.2.2.2.2.2.2.2.1)))))))))))))))))))))))), ((cell_far (p := ⟨gb141, _, none⟩) NB135_141.out _).trans (((cell_far (p := ⟨gb141, _, none⟩) NB135_141.out _).trans (((cell_far (p := ⟨gb141, _, none⟩) NB135_141.out _).trans (((cell_far (p := ⟨gb141, _, none⟩) NB135_141.out _).trans (((cell_far (p := ⟨gb141, _, none⟩) NB135_141.out _).trans (((cell_far (p := ⟨gb141, _, none⟩) NB135_141.out _).trans (((cell_far (p := ⟨gb141, _, none⟩) NB135_141.out _).trans (((cell_far (p := ⟨gb141, _, none⟩) NB135_141.out _).trans (((cell_far (p := ⟨gb141, _, none⟩) NB135_141.out _).trans (((cell_far (p := ⟨gb141, _, none⟩) NB135_141.out _).trans (((cell_far (p := ⟨gb141, _, none⟩) NB135_141.out _).trans (((cell_far (p := ⟨gb141, _, none⟩) NB135_141.out _).trans (hHeld.2.2.2.2.2.2.2.2.2.1)))))))))))))))))))))))), ((cell_far (p := ⟨gb141, _, none⟩) NB135_141.out _).trans (((cell_far (p := ⟨gb141, _, none⟩) NB135_141.out _).trans (((cell_far (p := ⟨gb141, _, none⟩) NB135_141.out _).trans (((cell_far (p := ⟨gb141, _, none⟩) NB135_141.out _).trans (((cell_far (p := ⟨gb141, _, none⟩) NB135_141.out _).trans (((cell_far (p := ⟨gb141, _, none⟩) NB135_141.out _).trans (((cell_far (p := ⟨gb141, _, none⟩) NB135_141.out _).trans (((cell_far (p := ⟨gb141, _, none⟩) NB135_141.out _).trans (((cell_far (p := ⟨gb141, _, none⟩) NB135_141.out _).trans (((cell_far (p := ⟨gb141, _, none⟩) NB135_141.out _).trans (((cell_far (p := ⟨gb141, _, none⟩) NB135_141.out _).trans (((cell_far (p := ⟨gb141, _, none⟩) NB135_141.out _).trans (hHeld.2.2.2.2.2.2.2.2.2.2.1)))))))))))))))))))))))), ((cell_far (p := ⟨gb141, _, none⟩) NB135_141.out _).trans (((cell_far (p := ⟨gb141, _, none⟩) NB135_141.out _).trans (((cell_far (p := ⟨gb141, _, none⟩) NB135_141.out _).trans (((cell_far (p := ⟨gb141, _, none⟩) NB135_141.out _).trans (((cell_far (p := ⟨gb141, _, none⟩) NB135_141.out _).trans (((cell_far (p := ⟨gb141, _, none⟩) NB135_141.out _).trans (((cell_far (p := ⟨gb141, _, none⟩) NB135_141.out _).trans (((cell_far (p := ⟨gb141, _, none⟩) NB135_141.out _).trans (((cell_far (p := ⟨gb141, _, none⟩) NB135_141.out _).trans (((cell_far (p := ⟨gb141, _, none⟩) NB135_141.out _).trans (((cell_far (p := ⟨gb141, _, none⟩) NB135_141.out _).trans (((cell_far (p := ⟨gb141, _, none⟩) NB135_141.out _).trans (hHeld.2.2.2.2.2.2.2.2.2.2.2.1)))))))))))))))))))))))), ((cell_far (p := ⟨gb141, _, none⟩) NB135_141.out _).trans (((cell_far (p := ⟨gb141, _, none⟩) NB135_141.out _).trans (((cell_far (p := ⟨gb141, _, none⟩) NB135_141.out _).trans (((cell_far (p := ⟨gb141, _, none⟩) NB135_141.out _).trans (((cell_far (p := ⟨gb141, _, none⟩) NB135_141.out _).trans (((cell_far (p := ⟨gb141, _, none⟩) NB135_141.out _).trans (((cell_far (p := ⟨gb141, _, none⟩) NB135_141.out _).trans (((cell_far (p := ⟨gb141, _, none⟩) NB135_141.out _).trans (((cell_far (p := ⟨gb141, _, none⟩) NB135_141.out _).trans (((cell_far (p := ⟨gb141, _, none⟩) NB135_141.out _).trans (((cell_far (p := ⟨gb141, _, none⟩) NB135_141.out _).trans (((cell_far (p := ⟨gb141, _, none⟩) NB135_141.out _).trans (hHeld.2.2.2.2.2.2.2.2.2.2.2.2.1)))))))))))))))))))))))), ((cell_far (p := ⟨gb141, _, none⟩) NB129_141.out _).trans (((cell_far (p := ⟨gb141, _, none⟩) NB129_141.out _).trans (((cell_far (p := ⟨gb141, _, none⟩) NB129_141.out _).trans (((cell_far (p := ⟨gb141, _, none⟩) NB129_141.out _).trans (((cell_far (p := ⟨gb141, _, none⟩) NB129_141.out _).trans (((cell_far (p := ⟨gb141, _, none⟩) NB129_141.out _).trans (((cell_far (p := ⟨gb141, _, none⟩) NB129_141.out _).trans (((cell_far (p := ⟨gb141, _, none⟩) NB129_141.out _).trans (((cell_far (p := ⟨gb141, _, none⟩) NB129_141.out _).trans (((cell_far (p := ⟨gb141, _, none⟩) NB129_141.out _).trans (((cell_far (p := ⟨gb141, _, none⟩) NB129_141.out _).trans (((cell_far (p := ⟨gb141, _, none⟩) NB129_141.out _).trans (hHeld.2.2.2.2.2.2.2.2.2.2.2.2.2.1)))))))))))))))))))))))), ((cell_far (p := ⟨gb141, _, none⟩) NB129_141.out _).trans (((cell_far (p := ⟨gb141, _, none⟩) NB129_141.out _).trans (((cell_far (p := ⟨gb141, _, none⟩) NB129_141.out _).trans (((cell_far (p := ⟨gb141, _, none⟩) NB129_141.out _).trans (((cell_far (p := ⟨gb141, _, none⟩) NB129_141.out _).trans (((cell_far (p := ⟨gb141, _, none⟩) NB129_141.out _).trans (((cell_far (p := ⟨gb141, _, none⟩) NB129_141.out _).trans (((cell_far (p := ⟨gb141, _, none⟩) NB129_141.out _).trans (((cell_far (p := ⟨gb141, _, none⟩) NB129_141.out _).trans (((cell_far (p := ⟨gb141, _, none⟩) NB129_141.out _).trans (((cell_far (p := ⟨gb141, _, none⟩) NB129_141.out _).trans (((cell_far (p := ⟨gb141, _, none⟩) NB129_141.out _).trans (hHeld.2.2.2.2.2.2.2.2.2.2.2.2.2.2))))))))))))))))))))))))⟩ (fun hHeld => ?_)
       clear hK K
       refine done_ (done_of HT_.out (by kernel_rfl)) ?_
       have hnb42 := NB135_141.out
       have hnc42 := NB141_135.out
       obtain ⟨hcz43_0, hcz43_1, hcz43_2, hcz43_3, hcz43_4, hcz43_5, hcz43_6, hcz43_7, hcz43_8, hcz43_9, hcz43_10, hcz43_11, hcz43_12⟩ := bc13 BK135.out
       obtain ⟨hfz43_0, hfz43_1, hfz43_2, hfz43_3, hfz43_4, hfz43_5, hfz43_6, hfz43_7, hfz43_8, hfz43_9, hfz43_10, hfz43_11, hfz43_12⟩ := bf13 BK135.out
       go_upto_if 35 with (fail)
       go_cut [] (fun wc => ∃ (kq : Nat) (x142007_18 : Int) (x142008_18 : Int) (x142009_18 : Int) (x142010_18 : Int) (x142011_18 : Int), Aside0 (trigauto_Compile.j1 kq x7_1 l0_1 (l0_1.length : Int) x21_1 l1_0 l1_1 ((rd_T64 l0_1 x21_1).f0.f0) ((rd_T64 l0_1 x21_1).f0.f1) ((rd_T64 l0_1 x21_1).f0.f2) ((rd_T64 l0_1 x21_1).f0.f3) ((rd_T64 l0_1 x21_1).f0.f4) ((rd_T64 l0_1 x21_1).f1) ((rd_T64 l0_1 x21_1).f2) ((rd_T64 l0_1 x21_1).f3) ((rd_T64 l0_1 x21_1).f4.f0) ((rd_T64 l0_1 x21_1).f4.f1) ((rd_T64 l0_1 x21_1).f4.f2) ((rd_T64 l0_1 x21_1).f4.f3) ((rd_T64 l0_1 x21_1).f4.f4) t136 t137 t138 t139 t140 ((rd_T64 l0_1 x21_1).f2) ((rd_T64 l0_1 x21_1).f3) x142007_18 x142008_18 x142009_18 x142010_18 x142011_18 = some (r1, r2)) ∧ Aside0 (kq ≤ k1) ∧ Aside0 (Kd.R k50 50 wc w.heap.size (fun k_ => k_ ≠ gb141) u7 x7_1) ∧ Aside0 (wc.heap[gb128]? = some (.cells #[.string a0_0, (.slice (some ad134) l0_1.length c0_1)] 24 (0, 0))) ∧ Aside0 (wc.heap[gb129]? = some (.cells #[(.slice A1_0 l1_0.length c1_0), (.slice A1_1 l1_1.length c1_1)] 28 (0, 0))) ∧ Aside0 (wc.heap[gb130]? = some (.cells #[(.slice none 0 0)] 31 (0, 0))) ∧ Aside0 (wc.heap[gb135]? = some (.cells #[.string ((rd_T64 l0_1 x21_1).f0.f0), .int .i64 ((rd_T64 l0_1 x21_1).f0.f1), .int .i64 ((rd_T64 l0_1 x21_1).f0.f2), .int .i64 ((rd_T64 l0_1 x21_1).f0.f3), .int .i64 ((rd_T64 l0_1 x21_1).f0.f4), .int .i64 ((rd_T64 l0_1 x21_1).f1), .int .i64 ((rd_T64 l0_1 x21_1).f2), .bool ((rd_T64 l0_1 x21_1).f3), .string ((rd_T64 l0_1 x21_1).f4.f0), .int .i64 ((rd_T64 l0_1 x21_1).f4.f1), .int .i64 ((rd_T64 l0_1 x21_1).f4.f2), .int .i64 ((rd_T64 l0_1 x21_1).f4.f3), .int .i64 ((rd_T64 l0_1 x21_1).f4.f4)] 64 (0, 0))) ∧ Aside0 (wc.heap[gb141]? = some (.cells #[.int .i64 t136, .int .i64 t137, .int .i64 t138, .int .i64 t139, .int .i64 t140, .int .i64 ((rd_T64 l0_1 x21_1).f2), .bool ((rd_T64 l0_1 x21_1).f3), .int .i64 x142007_18, .int .i64 x142008_18, .int .i64 x142009_18, .int .i64 x142010_18, .int .i64 x142011_18] 50 (0, 0))) ∧ Aside0 (Below w.heap.size w wc))
       case first =>
        have H := HC19.out
        clear HC19
        obtain ⟨bq44, hbq44⟩ : ∃ b_ : Bool, b_ = ((rd_T64 l0_1 x21_1).f3) := ⟨_, rfl⟩
        replace H : (if bq44 = true then ((trigauto_compiled.f ((rd_T64 l0_1 x21_1).f4.f0) ((rd_T64 l0_1 x21_1).f4.f1) ((rd_T64 l0_1 x21_1).f4.f2) ((rd_T64 l0_1 x21_1).f4.f3) ((rd_T64 l0_1 x21_1).f4.f4) l1_0 l1_1).bind fun bt142 => (trigauto_Compile.j1 k1 x7_1 l0_1 (l0_1.length : Int) x21_1 l1_0 l1_1 ((rd_T64 l0_1 x21_1).f0.f0) ((rd_T64 l0_1 x21_1).f0.f1) ((rd_T64 l0_1 x21_1).f0.f2) ((rd_T64 l0_1 x21_1).f0.f3) ((rd_T64 l0_1 x21_1).f0.f4) ((rd_T64 l0_1 x21_1).f1) ((rd_T64 l0_1 x21_1).f2) bq44 ((rd_T64 l0_1 x21_1).f4.f0) ((rd_T64 l0_1 x21_1).f4.f1) ((rd_T64 l0_1 x21_1).f4.f2) ((rd_T64 l0_1 x21_1).f4.f3) ((rd_T64 l0_1 x21_1).f4.f4) t136 t137 t138 t139 t140 ((rd_T64 l0_1 x21_1).f2) bq44 bt142.1 bt142.2.1 bt142.2.2.1 bt142.2.2.2.1 bt142.2.2.2.2)) else (trigauto_Compile.j1 k1 x7_1 l0_1 (l0_1.length : Int) x21_1 l1_0 l1_1 ((rd_T64 l0_1 x21_1).f0.f0) ((rd_T64 l0_1 x21_1).f0.f1) ((rd_T64 l0_1 x21_1).f0.f2) ((rd_T64 l0_1 x21_1).f0.f3) ((rd_T64 l0_1 x21_1).f0.f4) ((rd_T64 l0_1 x21_1).f1) ((rd_T64 l0_1 x21_1).f2) bq44 ((rd_T64 l0_1 x21_1).f4.f0) ((rd_T64 l0_1 x21_1).f4.f1) ((rd_T64 l0_1 x21_1).f4.f2) ((rd_T64 l0_1 x21_1).f4.f3) ((rd_T64 l0_1 x21_1).f4.f4) t136 t137 t138 t139 t140 ((rd_T64 l0_1 x21_1).f2) bq44 0 0 0 0 0)) = some (r1, r2) := by rw [← hbq44] at H; exact H
        have Nbq44 := Aside0.mk hbq44
        clear hbq44
        (try rw [← Nbq44.out])
        by_cases c45 : bq44 = true
        ·
         subst c45
         (try rw [← Nbq44.out] at BK128)
         (try rw [← Nbq44.out] at BK129)
         (try rw [← Nbq44.out] at BK130)
         (try rw [← Nbq44.out] at BK135)
         (try rw [← Nbq44.out] at BK141)
         have H1 : ((trigauto_compiled.f ((rd_T64 l0_1 x21_1).f4.f0) ((rd_T64 l0_1 x21_1).f4.f1) ((rd_T64 l0_1 x21_1).f4.f2) ((rd_T64 l0_1 x21_1).f4.f3) ((rd_T64 l0_1 x21_1).f4.f4) l1_0 l1_1).bind fun bt142 => (trigauto_Compile.j1 k1 x7_1 l0_1 (l0_1.length : Int) x21_1 l1_0 l1_1 ((rd_T64 l0_1 x21_1).f0.f0) ((rd_T64 l0_1 x21_1).f0.f1) ((rd_T64 l0_1 x21_1).f0.f2) ((rd_T64 l0_1 x21_1).f0.f3) ((rd_T64 l0_1 x21_1).f0.f4) ((rd_T64 l0_1 x21_1).f1) ((rd_T64 l0_1 x21_1).f2) true ((rd_T64 l0_1 x21_1).f4.f0) ((rd_T64 l0_1 x21_1).f4.f1) ((rd_T64 l0_1 x21_1).f4.f2) ((rd_T64 l0_1 x21_1).f4.f3) ((rd_T64 l0_1 x21_1).f4.f4) t136 t137 t138 t139 t140 ((rd_T64 l0_1 x21_1).f2) true bt142.1 bt142.2.1 bt142.2.2.1 bt142.2.2.2.1 bt142.2.2.2.2)) = some (r1, r2) := by rw [if_pos rfl] at H; exact H
         clear H
         have H := H1
         clear H1
         replace H := Option.bind_eq_some_iff.mp H
         obtain ⟨⟨t142, t143, t144, t145, t146⟩, A460, H⟩ := H
         replace H : (trigauto_Compile.j1 k1 x7_1 l0_1 (l0_1.length : Int) x21_1 l1_0 l1_1 ((rd_T64 l0_1 x21_1).f0.f0) ((rd_T64 l0_1 x21_1).f0.f1) ((rd_T64 l0_1 x21_1).f0.f2) ((rd_T64 l0_1 x21_1).f0.f3) ((rd_T64 l0_1 x21_1).f0.f4) ((rd_T64 l0_1 x21_1).f1) ((rd_T64 l0_1 x21_1).f2) true ((rd_T64 l0_1 x21_1).f4.f0) ((rd_T64 l0_1 x21_1).f4.f1) ((rd_T64 l0_1 x21_1).f4.f2) ((rd_T64 l0_1 x21_1).f4.f3) ((rd_T64 l0_1 x21_1).f4.f4) t136 t137 t138 t139 t140 ((rd_T64 l0_1 x21_1).f2) true t142 t143 t144 t145 t146) = some (r1, r2) := H
         have A46 := Aside0.mk A460
         clear A460
         have H' := Aside0.mk H
         clear H
         have hnb47 := NB135_128.out
         have hnc47 := NB128_135.out
         have hnb48 := NB135_129.out
         have hnc48 := NB129_135.out
         have hnb49 := NB135_130.out
         have hnc49 := NB130_135.out
         have hnb50 := NB135_141.out
         have hnc50 := NB141_135.out
         have hcz51_0 : w29.cell? ⟨gb135, 0, none⟩ = some (.string ((rd_T64 l0_1 x21_1).f0.f0)) := (blk_cell BK135.out 0).trans rfl
         have hcz51_1 : w29.cell? ⟨gb135, 1, none⟩ = some (.int .i64 ((rd_T64 l0_1 x21_1).f0.f1)) := (blk_cell BK135.out 1).trans rfl
         have hcz51_2 : w29.cell? ⟨gb135, 2, none⟩ = some (.int .i64 ((rd_T64 l0_1 x21_1).f0.f2)) := (blk_cell BK135.out 2).trans rfl
         have hcz51_3 : w29.cell? ⟨gb135, 3, none⟩ = some (.int .i64 ((rd_T64 l0_1 x21_1).f0.f3)) := (blk_cell BK135.out 3).trans rfl
         have hcz51_4 : w29.cell? ⟨gb135, 4, none⟩ = some (.int .i64 ((rd_T64 l0_1 x21_1).f0.f4)) := (blk_cell BK135.out 4).trans rfl
         have hcz51_5 : w29.cell? ⟨gb135, 5, none⟩ = some (.int .i64 ((rd_T64 l0_1 x21_1).f1)) := (blk_cell BK135.out 5).trans rfl
         have hcz51_6 : w29.cell? ⟨gb135, 6, none⟩ = some (.int .i64 ((rd_T64 l0_1 x21_1).f2)) := (blk_cell BK135.out 6).trans rfl
         have hcz51_7 : w29.cell? ⟨gb135, 7, none⟩ = some (.bool true) := (blk_cell BK135.out 7).trans (by first | (rw [← Nbq44.out]; rfl) | rfl)
         have hcz51_8 : w29.cell? ⟨gb135, 8, none⟩ = some (.string ((rd_T64 l0_1 x21_1).f4.f0)) := (blk_cell BK135.out 8).trans rfl
         have hcz51_9 : w29.cell? ⟨gb135, 9, none⟩ = some (.int .i64 ((rd_T64 l0_1 x21_1).f4.f1)) := (blk_cell BK135.out 9).trans rfl
         have hcz51_10 : w29.cell? ⟨gb135, 10, none⟩ = some (.int .i64 ((rd_T64 l0_1 x21_1).f4.f2)) := (blk_cell BK135.out 10).trans rfl
         have hcz51_11 : w29.cell? ⟨gb135, 11, none⟩ = some (.int .i64 ((rd_T64 l0_1 x21_1).f4.f3)) := (blk_cell BK135.out 11).trans rfl
         have hcz51_12 : w29.cell? ⟨gb135, 12, none⟩ = some (.int .i64 ((rd_T64 l0_1 x21_1).f4.f4)) := (blk_cell BK135.out 12).trans rfl
         obtain ⟨hfz51_0, hfz51_1, hfz51_2, hfz51_3, hfz51_4, hfz51_5, hfz51_6, hfz51_7, hfz51_8, hfz51_9, hfz51_10, hfz51_11, hfz51_12⟩ := bf13 BK135.out
         have hnb52 := NB129_128.out
         have hnc52 := NB128_129.out
         have hnb53 := NB129_130.out
         have hnc53 := NB130_129.out
         have hnb54 := NB129_141.out
         have hnc54 := NB141_129.out
         obtain ⟨hcz55_0, hcz55_1⟩ := bc2 BK129.out
         obtain ⟨hfz55_0, hfz55_1⟩ := bf2 BK129.out
         go_wp2_with (first | ((with_reducible refine gate_callee (f := 39) rfl ?_); refine goesL_ (some 39) rfl rfl Try.func39 (by kernel_rfl) rfl #[.agg #[.string ((rd_T64 l0_1 x21_1).f4.f0), .int .i64 ((rd_T64 l0_1 x21_1).f4.f1), .int .i64 ((rd_T64 l0_1 x21_1).f4.f2), .int .i64 ((rd_T64 l0_1 x21_1).f4.f3), .int .i64 ((rd_T64 l0_1 x21_1).f4.f4)], .agg #[.slice A1_0 l1_0.length c1_0, .slice A1_1 l1_1.length c1_1]] rfl (by (try simp only [List.map_toArray, List.map_cons, List.map_nil]); first | done | rfl | (simp only [List.length_drop, List.length_take]; rfl)) ?_; (with_reducible refine (trigauto_compiled.calls ((rd_T64 l0_1 x21_1).f4.f0) ((rd_T64 l0_1 x21_1).f4.f1) ((rd_T64 l0_1 x21_1).f4.f2) ((rd_T64 l0_1 x21_1).f4.f3) ((rd_T64 l0_1 x21_1).f4.f4) _ _ l1_0 _ _ l1_1 t142 t143 t144 t145 t146 _ ?side1 ?side2 ?side3 ?side4 A46.out).mono ?_); (case side1 => exact Kd.C_below HR1_0.out (bs HB.out)); (case side2 => exact HC1_0.out); (case side3 => exact Kd.C_below HR1_1.out (bs HB.out)); (case side4 => exact HC1_1.out); rintro e w56 ⟨rfl, hb⟩; refine ⟨_, rfl, ?_⟩; have n0_ := Aside0.mk (Kd.R_below (by (with_reducible repeat (first | apply Kd.R_alloc | apply Kd.R_drewN | apply Kd.R_drew)); exact (Kd.R_mono (Kd.R_far (p := ⟨gb141, 11, none⟩) (Kd.R_far (p := ⟨gb141, 10, none⟩) (Kd.R_far (p := ⟨gb141, 9, none⟩) (Kd.R_far (p := ⟨gb141, 8, none⟩) (Kd.R_far (p := ⟨gb141, 7, none⟩) (Kd.R_far (p := ⟨gb141, 6, none⟩) (Kd.R_far (p := ⟨gb141, 5, none⟩) (Kd.R_far (p := ⟨gb141, 4, none⟩) (Kd.R_far (p := ⟨gb141, 3, none⟩) (Kd.R_far (p := ⟨gb141, 2, none⟩) (Kd.R_far (p := ⟨gb141, 1, none⟩) (Kd.R_far (p := ⟨gb141, 0, none⟩) (Kd.R_mono HO_7.out (fun k_ hk => (⟨hk, hk⟩ : _ ∧ k_ ≠ gb141))) (fun _ hk => hk.2) (.int .i64 t136)) (fun _ hk => hk.2) (.int .i64 t137)) (fun _ hk => hk.2) (.int .i64 t138)) (fun _ hk => hk.2) (.int .i64 t139)) (fun _ hk => hk.2) (.int .i64 t140)) (fun _ hk => hk.2) (.int .i64 ((rd_T64 l0_1 x21_1).f2))) (fun _ hk => hk.2) (.bool (true))) (fun _ hk => hk.2) (.int .i64 0)) (fun _ hk => hk.2) (.int .i64 0)) (fun _ hk => hk.2) (.int .i64 0)) (fun _ hk => hk.2) (.int .i64 0)) (fun _ hk => hk.2) (.int .i64 0)) (fun _ h_ => h_.1))) hb); have n1_ := Aside0.mk (blk_below (g := gb128) (o := .cells #[.string a0_0, .slice (some ad134) l0_1.length c0_1] 24 (0, 0)) (by (iterate 12 (with_reducible repeat (first | refine blk_drewN ?_ _ | refine blk_drew ?_ | refine blk_alloc ?_ _)); refine blk_far ?_ NB128_141.out _); exact bg BK128.out) hb); have n2_ := Aside0.mk (blk_below (g := gb129) (o := .cells #[.slice A1_0 l1_0.length c1_0, .slice A1_1 l1_1.length c1_1] 28 (0, 0)) (by (iterate 12 (with_reducible repeat (first | refine blk_drewN ?_ _ | refine blk_drew ?_ | refine blk_alloc ?_ _)); refine blk_far ?_ NB129_141.out _); exact bg BK129.out) hb); have n3_ := Aside0.mk (blk_below (g := gb130) (o := .cells #[.slice none 0 0] 31 (0, 0)) (by (iterate 12 (with_reducible repeat (first | refine blk_drewN ?_ _ | refine blk_drew ?_ | refine blk_alloc ?_ _)); refine blk_far ?_ NB130_141.out _); exact bg BK130.out) hb); have n4_ := Aside0.mk (blk_below (g := gb135) (o := .cells #[.string ((rd_T64 l0_1 x21_1).f0.f0), .int .i64 ((rd_T64 l0_1 x21_1).f0.f1), .int .i64 ((rd_T64 l0_1 x21_1).f0.f2), .int .i64 ((rd_T64 l0_1 x21_1).f0.f3), .int .i64 ((rd_T64 l0_1 x21_1).f0.f4), .int .i64 ((rd_T64 l0_1 x21_1).f1), .int .i64 ((rd_T64 l0_1 x21_1).f2), .bool true, .string ((rd_T64 l0_1 x21_1).f4.f0), .int .i64 ((rd_T64 l0_1 x21_1).f4.f1), .int .i64 ((rd_T64 l0_1 x21_1).f4.f2), .int .i64 ((rd_T64 l0_1 x21_1).f4.f3), .int .i64 ((rd_T64 l0_1 x21_1).f4.f4)] 64 (0, 0)) (by (iterate 12 (with_reducible repeat (first | refine blk_drewN ?_ _ | refine blk_drew ?_ | refine blk_alloc ?_ _)); refine blk_far ?_ NB135_141.out _); exact bg BK135.out) hb); have n5_ := Aside0.mk (blk_below (g := gb141) (o := .cells #[.int .i64 t136, .int .i64 t137, .int .i64 t138, .int .i64 t139, .int .i64 t140, .int .i64 ((rd_T64 l0_1 x21_1).f2), .bool true, .int .i64 0, .int .i64 0, .int .i64 0, .int .i64 0, .int .i64 0] 50 (0, 0)) (by exact pt12 (bg BK141.out)) hb); have n6_ := Aside0.mk (below_step (bs HB.out) hb); clear HO_7; clear BK128; clear BK129; clear BK130; clear BK135; clear BK141; clear HB; have HO_7 := n0_; have BK128 := n1_; have BK129 := n2_; have BK130 := n3_; have BK135 := n4_; have BK141 := n5_; have HB := n6_; clear n0_ n1_ n2_ n3_ n4_ n5_ n6_; (try clear hb); (try clear hb2); (try clear hk); (try clear hi); have hnb57 := NB141_128.out; have hnc57 := NB128_141.out; have hnb58 := NB141_130.out; have hnc58 := NB130_141.out; obtain ⟨hcz59_0, hcz59_1, hcz59_2, hcz59_3, hcz59_4, hcz59_5, hcz59_6, hcz59_7, hcz59_8, hcz59_9, hcz59_10, hcz59_11⟩ := bc12 BK141.out; obtain ⟨hfz59_0, hfz59_1, hfz59_2, hfz59_3, hfz59_4, hfz59_5, hfz59_6, hfz59_7, hfz59_8, hfz59_9, hfz59_10, hfz59_11⟩ := bf12 BK141.out))
         go_meet
         case rel => (try rw [Nbq44.out] at H'); (try rw [Nbq44.out] at BK128); (try rw [Nbq44.out] at BK129); (try rw [Nbq44.out] at BK130); (try rw [Nbq44.out] at BK135); (try rw [Nbq44.out] at BK141); exact ⟨_, (t142), (t143), (t144), (t145), (t146), H', ⟨by have := HK1.out; first | omega | exact Nat.le_refl _⟩, ⟨by (with_reducible repeat (first | apply Kd.R_alloc | apply Kd.R_drewN | apply Kd.R_drew)); exact Kd.R_mono (Kd.R_far (p := ⟨gb141, 11, none⟩) (Kd.R_far (p := ⟨gb141, 10, none⟩) (Kd.R_far (p := ⟨gb141, 9, none⟩) (Kd.R_far (p := ⟨gb141, 8, none⟩) (Kd.R_far (p := ⟨gb141, 7, none⟩) (Kd.R_mono HO_7.out (fun k_ hk => (⟨hk, hk⟩ : _ ∧ k_ ≠ gb141))) (fun _ hk => hk.2) (.int .i64 t142)) (fun _ hk => hk.2) (.int .i64 t143)) (fun _ hk => hk.2) (.int .i64 t144)) (fun _ hk => hk.2) (.int .i64 t145)) (fun _ hk => hk.2) (.int .i64 t146)) (fun _ hk => hk.1)⟩, ⟨by (iterate 5 (with_reducible repeat (first | refine blk_drewN ?_ _ | refine blk_drew ?_ | refine blk_alloc ?_ _)); refine blk_far ?_ NB128_141.out _); exact bg BK128.out⟩, ⟨by (iterate 5 (with_reducible repeat (first | refine blk_drewN ?_ _ | refine blk_drew ?_ | refine blk_alloc ?_ _)); refine blk_far ?_ NB129_141.out _); exact bg BK129.out⟩, ⟨by (iterate 5 (with_reducible repeat (first | refine blk_drewN ?_ _ | refine blk_drew ?_ | refine blk_alloc ?_ _)); refine blk_far ?_ NB130_141.out _); exact bg BK130.out⟩, ⟨by (iterate 5 (with_reducible repeat (first | refine blk_drewN ?_ _ | refine blk_drew ?_ | refine blk_alloc ?_ _)); refine blk_far ?_ NB135_141.out _); exact bg BK135.out⟩, ⟨by (with_reducible repeat (first | refine blk_drewN ?_ _ | refine blk_drew ?_ | refine blk_alloc ?_ _)); refine blk_put (cs := #[.int .i64 t136, .int .i64 t137, .int .i64 t138, .int .i64 t139, .int .i64 t140, .int .i64 ((rd_T64 l0_1 x21_1).f2), .bool ((rd_T64 l0_1 x21_1).f3), .int .i64 t142, .int .i64 t143, .int .i64 t144, .int .i64 t145, .int .i64 0]) ?_ 11 _ rfl; (with_reducible repeat (first | refine blk_drewN ?_ _ | refine blk_drew ?_ | refine blk_alloc ?_ _)); refine blk_put (cs := #[.int .i64 t136, .int .i64 t137, .int .i64 t138, .int .i64 t139, .int .i64 t140, .int .i64 ((rd_T64 l0_1 x21_1).f2), .bool ((rd_T64 l0_1 x21_1).f3), .int .i64 t142, .int .i64 t143, .int .i64 t144, .int .i64 0, .int .i64 0]) ?_ 10 _ rfl; (with_reducible repeat (first | refine blk_drewN ?_ _ | refine blk_drew ?_ | refine blk_alloc ?_ _)); refine blk_put (cs := #[.int .i64 t136, .int .i64 t137, .int .i64 t138, .int .i64 t139, .int .i64 t140, .int .i64 ((rd_T64 l0_1 x21_1).f2), .bool ((rd_T64 l0_1 x21_1).f3), .int .i64 t142, .int .i64 t143, .int .i64 0, .int .i64 0, .int .i64 0]) ?_ 9 _ rfl; (with_reducible repeat (first | refine blk_drewN ?_ _ | refine blk_drew ?_ | refine blk_alloc ?_ _)); refine blk_put (cs := #[.int .i64 t136, .int .i64 t137, .int .i64 t138, .int .i64 t139, .int .i64 t140, .int .i64 ((rd_T64 l0_1 x21_1).f2), .bool ((rd_T64 l0_1 x21_1).f3), .int .i64 t142, .int .i64 0, .int .i64 0, .int .i64 0, .int .i64 0]) ?_ 8 _ rfl; (with_reducible repeat (first | refine blk_drewN ?_ _ | refine blk_drew ?_ | refine blk_alloc ?_ _)); refine blk_put (cs := #[.int .i64 t136, .int .i64 t137, .int .i64 t138, .int .i64 t139, .int .i64 t140, .int .i64 ((rd_T64 l0_1 x21_1).f2), .bool ((rd_T64 l0_1 x21_1).f3), .int .i64 0, .int .i64 0, .int .i64 0, .int .i64 0, .int .i64 0]) ?_ 7 _ rfl; exact bg BK141.out⟩, ⟨bs HB.out⟩⟩
        ·
         replace c45 := Bool.eq_false_iff.mpr c45
         subst c45
         have H1 : (trigauto_Compile.j1 k1 x7_1 l0_1 (l0_1.length : Int) x21_1 l1_0 l1_1 ((rd_T64 l0_1 x21_1).f0.f0) ((rd_T64 l0_1 x21_1).f0.f1) ((rd_T64 l0_1 x21_1).f0.f2) ((rd_T64 l0_1 x21_1).f0.f3) ((rd_T64 l0_1 x21_1).f0.f4) ((rd_T64 l0_1 x21_1).f1) ((rd_T64 l0_1 x21_1).f2) false ((rd_T64 l0_1 x21_1).f4.f0) ((rd_T64 l0_1 x21_1).f4.f1) ((rd_T64 l0_1 x21_1).f4.f2) ((rd_T64 l0_1 x21_1).f4.f3) ((rd_T64 l0_1 x21_1).f4.f4) t136 t137 t138 t139 t140 ((rd_T64 l0_1 x21_1).f2) false 0 0 0 0 0) = some (r1, r2) := by rw [if_neg (show ¬ (false = true) by decide)] at H; exact H
         clear H
         have H := H1
         clear H1
         have H' := Aside0.mk H
         clear H
         go_wp2
         go_meet
         case rel => (try rw [Nbq44.out] at H'); exact ⟨_, (0), (0), (0), (0), (0), H', ⟨by have := HK1.out; first | omega | exact Nat.le_refl _⟩, ⟨by (with_reducible repeat (first | apply Kd.R_alloc | apply Kd.R_drewN | apply Kd.R_drew)); exact Kd.R_mono (Kd.R_far (p := ⟨gb141, 11, none⟩) (Kd.R_far (p := ⟨gb141, 10, none⟩) (Kd.R_far (p := ⟨gb141, 9, none⟩) (Kd.R_far (p := ⟨gb141, 8, none⟩) (Kd.R_far (p := ⟨gb141, 7, none⟩) (Kd.R_far (p := ⟨gb141, 6, none⟩) (Kd.R_far (p := ⟨gb141, 5, none⟩) (Kd.R_far (p := ⟨gb141, 4, none⟩) (Kd.R_far (p := ⟨gb141, 3, none⟩) (Kd.R_far (p := ⟨gb141, 2, none⟩) (Kd.R_far (p := ⟨gb141, 1, none⟩) (Kd.R_far (p := ⟨gb141, 0, none⟩) (Kd.R_mono HO_7.out (fun k_ hk => (⟨hk, hk⟩ : _ ∧ k_ ≠ gb141))) (fun _ hk => hk.2) (.int .i64 t136)) (fun _ hk => hk.2) (.int .i64 t137)) (fun _ hk => hk.2) (.int .i64 t138)) (fun _ hk => hk.2) (.int .i64 t139)) (fun _ hk => hk.2) (.int .i64 t140)) (fun _ hk => hk.2) (.int .i64 ((rd_T64 l0_1 x21_1).f2))) (fun _ hk => hk.2) (.bool (false))) (fun _ hk => hk.2) (.int .i64 0)) (fun _ hk => hk.2) (.int .i64 0)) (fun _ hk => hk.2) (.int .i64 0)) (fun _ hk => hk.2) (.int .i64 0)) (fun _ hk => hk.2) (.int .i64 0)) (fun _ hk => hk.1)⟩, ⟨by (iterate 12 (with_reducible repeat (first | refine blk_drewN ?_ _ | refine blk_drew ?_ | refine blk_alloc ?_ _)); refine blk_far ?_ NB128_141.out _); exact bg BK128.out⟩, ⟨by (iterate 12 (with_reducible repeat (first | refine blk_drewN ?_ _ | refine blk_drew ?_ | refine blk_alloc ?_ _)); refine blk_far ?_ NB129_141.out _); exact bg BK129.out⟩, ⟨by (iterate 12 (with_reducible repeat (first | refine blk_drewN ?_ _ | refine blk_drew ?_ | refine blk_alloc ?_ _)); refine blk_far ?_ NB130_141.out _); exact bg BK130.out⟩, ⟨by (iterate 12 (with_reducible repeat (first | refine blk_drewN ?_ _ | refine blk_drew ?_ | refine blk_alloc ?_ _)); refine blk_far ?_ NB135_141.out _); exact bg BK135.out⟩, ⟨by (try rw [← Nbq44.out]); exact pt12 (bg BK141.out)⟩, ⟨bs HB.out⟩⟩
       case rest =>
        clear HC19
        try clear c1
        try clear p1
        try clear q1
        try clear hx1
        try clear c2
        try clear p2
        try clear c3
        try clear c4
        try clear q4
        try clear c5
        try clear p13
        try clear q13
        try clear hx13
        try clear c21
        try clear c22
        try clear c23
        try clear c39
        try clear c42
        try clear q44
        try clear c45
        try clear c47
        try clear c48
        try clear c49
        try clear c50
        try clear c52
        try clear c53
        try clear c54
        try clear c57
        try clear c58
        try clear hcz24_0 hcz24_1 hcz24_10 hcz24_11 hcz24_12 hcz24_2 hcz24_3 hcz24_4 hcz24_5 hcz24_6 hcz24_7 hcz24_8 hcz24_9
        try clear hcz43_0 hcz43_1 hcz43_10 hcz43_11 hcz43_12 hcz43_2 hcz43_3 hcz43_4 hcz43_5 hcz43_6 hcz43_7 hcz43_8 hcz43_9
        try clear hcz51_0 hcz51_1 hcz51_10 hcz51_11 hcz51_12 hcz51_2 hcz51_3 hcz51_4 hcz51_5 hcz51_6 hcz51_7 hcz51_8 hcz51_9
        try clear hcz55_0 hcz55_1
        try clear hcz59_0 hcz59_1 hcz59_10 hcz59_11 hcz59_2 hcz59_3 hcz59_4 hcz59_5 hcz59_6 hcz59_7 hcz59_8 hcz59_9
        try clear hfz24_0 hfz24_1 hfz24_10 hfz24_11 hfz24_12 hfz24_2 hfz24_3 hfz24_4 hfz24_5 hfz24_6 hfz24_7 hfz24_8 hfz24_9
        try clear hfz43_0 hfz43_1 hfz43_10 hfz43_11 hfz43_12 hfz43_2 hfz43_3 hfz43_4 hfz43_5 hfz43_6 hfz43_7 hfz43_8 hfz43_9
        try clear hfz51_0 hfz51_1 hfz51_10 hfz51_11 hfz51_12 hfz51_2 hfz51_3 hfz51_4 hfz51_5 hfz51_6 hfz51_7 hfz51_8 hfz51_9
        try clear hfz55_0 hfz55_1
        try clear hfz59_0 hfz59_1 hfz59_10 hfz59_11 hfz59_2 hfz59_3 hfz59_4 hfz59_5 hfz59_6 hfz59_7 hfz59_8 hfz59_9
        try clear hx134_10
        try clear hx134_11
        try clear hx134_12
        try clear hx134_7
        try clear hx134_8
        try clear hx134_9
        try clear p134
        try clear q134
        obtain ⟨kq, x142007_18, x142008_18, x142009_18, x142010_18, x142011_18, HA, HJ18, HO_7, BK128, BK129, BK130, BK135, BK141, HB⟩ := hcut
        cases kq with
        | zero => exact absurd HA.out (by simp [trigauto_Compile.j1])
        | succ kj18 =>
         have H := HA.out
         clear HA
         simp only [trigauto_Compile.j1] at H
         have H' := Aside0.mk H
         clear H
         have hnb60 := NB135_128.out
         have hnc60 := NB128_135.out
         have hnb61 := NB135_129.out
         have hnc61 := NB129_135.out
         have hnb62 := NB135_130.out
         have hnc62 := NB130_135.out
         have hnb63 := NB135_141.out
         have hnc63 := NB141_135.out
         obtain ⟨hcz64_0, hcz64_1, hcz64_2, hcz64_3, hcz64_4, hcz64_5, hcz64_6, hcz64_7, hcz64_8, hcz64_9, hcz64_10, hcz64_11, hcz64_12⟩ := bc13 BK135.out
         obtain ⟨hfz64_0, hfz64_1, hfz64_2, hfz64_3, hfz64_4, hfz64_5, hfz64_6, hfz64_7, hfz64_8, hfz64_9, hfz64_10, hfz64_11, hfz64_12⟩ := bf13 BK135.out
         go_wp2
         go_loopg [7, 43] kj18 (fun kq v7 v43 w' => ∃ (x7_3 : List (S50)) (x43_3 : Int), v43 = .int .i64 x43_3 ∧ Aside0 (trigauto_Compile.l1 kq x7_3 l0_1 (l0_1.length : Int) x21_1 ((rd_T64 l0_1 x21_1).f1) x43_3 l1_0 l1_1 t136 t137 t138 t139 t140 ((rd_T64 l0_1 x21_1).f2) ((rd_T64 l0_1 x21_1).f3) x142007_18 x142008_18 x142009_18 x142010_18 x142011_18 = some (r1, r2)) ∧ Aside0 (kq ≤ kj18) ∧ Aside0 (Kd.R k50 50 w' w.heap.size (fun k_ => k_ ≠ gb141) v7 x7_3) ∧ Aside0 (w'.heap[gb128]? = some (.cells #[.string a0_0, (.slice (some ad134) l0_1.length c0_1)] 24 (0, 0))) ∧ Aside0 (w'.heap[gb129]? = some (.cells #[(.slice A1_0 l1_0.length c1_0), (.slice A1_1 l1_1.length c1_1)] 28 (0, 0))) ∧ Aside0 (w'.heap[gb130]? = some (.cells #[(.slice none 0 0)] 31 (0, 0))) ∧ Aside0 (w'.heap[gb135]? = some (.cells #[.string ((rd_T64 l0_1 x21_1).f0.f0), .int .i64 ((rd_T64 l0_1 x21_1).f0.f1), .int .i64 ((rd_T64 l0_1 x21_1).f0.f2), .int .i64 ((rd_T64 l0_1 x21_1).f0.f3), .int .i64 ((rd_T64 l0_1 x21_1).f0.f4), .int .i64 ((rd_T64 l0_1 x21_1).f1), .int .i64 ((rd_T64 l0_1 x21_1).f2), .bool ((rd_T64 l0_1 x21_1).f3), .string ((rd_T64 l0_1 x21_1).f4.f0), .int .i64 ((rd_T64 l0_1 x21_1).f4.f1), .int .i64 ((rd_T64 l0_1 x21_1).f4.f2), .int .i64 ((rd_T64 l0_1 x21_1).f4.f3), .int .i64 ((rd_T64 l0_1 x21_1).f4.f4)] 64 (0, 0))) ∧ Aside0 (w'.heap[gb141]? = some (.cells #[.int .i64 t136, .int .i64 t137, .int .i64 t138, .int .i64 t139, .int .i64 t140, .int .i64 ((rd_T64 l0_1 x21_1).f2), .bool ((rd_T64 l0_1 x21_1).f3), .int .i64 x142007_18, .int .i64 x142008_18, .int .i64 x142009_18, .int .i64 x142010_18, .int .i64 x142011_18] 50 (0, 0))) ∧ Aside0 (Below w.heap.size w w'))
         case atStart => exact ⟨(x7_1), (0), (by first | rfl | (simp; done) | (simp [*]; done)), H', ⟨Nat.le_refl _⟩, ⟨by (with_reducible repeat (first | apply Kd.R_alloc | apply Kd.R_drewN | apply Kd.R_drew)); exact HO_7.out⟩, ⟨bg BK128.out⟩, ⟨bg BK129.out⟩, ⟨bg BK130.out⟩, ⟨bg BK135.out⟩, ⟨bg BK141.out⟩, ⟨bs HB.out⟩⟩
         case round =>
          clear H'
          try clear c1
          try clear p1
          try clear q1
          try clear hx1
          try clear c2
          try clear p2
          try clear c3
          try clear c4
          try clear q4
          try clear c5
          try clear c6
          try clear p13
          try clear q13
          try clear hx13
          try clear c21
          try clear c22
          try clear c23
          try clear c39
          try clear c42
          try clear q44
          try clear c45
          try clear c47
          try clear c48
          try clear c49
          try clear c50
          try clear c52
          try clear c53
          try clear c54
          try clear c57
          try clear c58
          try clear c60
          try clear c61
          try clear c62
          try clear c63
          try clear hcz24_0 hcz24_1 hcz24_10 hcz24_11 hcz24_12 hcz24_2 hcz24_3 hcz24_4 hcz24_5 hcz24_6 hcz24_7 hcz24_8 hcz24_9
          try clear hcz43_0 hcz43_1 hcz43_10 hcz43_11 hcz43_12 hcz43_2 hcz43_3 hcz43_4 hcz43_5 hcz43_6 hcz43_7 hcz43_8 hcz43_9
          try clear hcz51_0 hcz51_1 hcz51_10 hcz51_11 hcz51_12 hcz51_2 hcz51_3 hcz51_4 hcz51_5 hcz51_6 hcz51_7 hcz51_8 hcz51_9
          try clear hcz55_0 hcz55_1
          try clear hcz59_0 hcz59_1 hcz59_10 hcz59_11 hcz59_2 hcz59_3 hcz59_4 hcz59_5 hcz59_6 hcz59_7 hcz59_8 hcz59_9
          try clear hcz64_0 hcz64_1 hcz64_10 hcz64_11 hcz64_12 hcz64_2 hcz64_3 hcz64_4 hcz64_5 hcz64_6 hcz64_7 hcz64_8 hcz64_9
          try clear hfz24_0 hfz24_1 hfz24_10 hfz24_11 hfz24_12 hfz24_2 hfz24_3 hfz24_4 hfz24_5 hfz24_6 hfz24_7 hfz24_8 hfz24_9
          try clear hfz43_0 hfz43_1 hfz43_10 hfz43_11 hfz43_12 hfz43_2 hfz43_3 hfz43_4 hfz43_5 hfz43_6 hfz43_7 hfz43_8 hfz43_9
          try clear hfz51_0 hfz51_1 hfz51_10 hfz51_11 hfz51_12 hfz51_2 hfz51_3 hfz51_4 hfz51_5 hfz51_6 hfz51_7 hfz51_8 hfz51_9
          try clear hfz55_0 hfz55_1
          try clear hfz59_0 hfz59_1 hfz59_10 hfz59_11 hfz59_2 hfz59_3 hfz59_4 hfz59_5 hfz59_6 hfz59_7 hfz59_8 hfz59_9
          try clear hfz64_0 hfz64_1 hfz64_10 hfz64_11 hfz64_12 hfz64_2 hfz64_3 hfz64_4 hfz64_5 hfz64_6 hfz64_7 hfz64_8 hfz64_9
          try clear hx134_10
          try clear hx134_11
          try clear hx134_12
          try clear hx134_7
          try clear hx134_8
          try clear hx134_9
          try clear p1
          try clear p13
          try clear p134
          try clear p2
          try clear q1
          try clear q13
          try clear q134
          try clear q4
          try clear q44
          obtain ⟨x7_3, x43_3, rfl, HA, HK3, HO_7, BK128, BK129, BK130, BK135, BK141, HB⟩ := hrel
          cases gk with
          | zero => exact absurd HA.out (by simp [trigauto_Compile.l1])
          | succ k3 =>
           have H := HA.out
           clear HA
           simp only [trigauto_Compile.l1] at H
           by_cases c65 : x43_3 < ((rd_T64 l0_1 x21_1).f1)
           ·
            rw [if_pos c65] at H
            have c65b0 : decide (x43_3 < ((rd_T64 l0_1 x21_1).f1)) = true := decide_eq_true c65
            clear c65
            by_cases c66 : x7_3.length < 1466015503701
            ·
             rw [if_pos c66] at H
             have LMc66 := Aside0.mk c66
             clear c66
             obtain ⟨y147, hy147⟩ : ∃ y_ : List (S50), y_ = (x7_3 ++ [(⟨(⟨t136, t137, t138, t139, t140⟩ : S42), ((rd_T64 l0_1 x21_1).f2), ((rd_T64 l0_1 x21_1).f3), (⟨x142007_18, x142008_18, x142009_18, x142010_18, x142011_18⟩ : S42)⟩ : S50)]) := ⟨_, rfl⟩
             replace H : (trigauto_Compile.l1 k3 y147 l0_1 (l0_1.length : Int) x21_1 ((rd_T64 l0_1 x21_1).f1) (wrap64 (x43_3 + 1)) l1_0 l1_1 t136 t137 t138 t139 t140 ((rd_T64 l0_1 x21_1).f2) ((rd_T64 l0_1 x21_1).f3) x142007_18 x142008_18 x142009_18 x142010_18 x142011_18) = some (r1, r2) := by first | (rw [hy147]; with_reducible exact H) | (have H2_ := (Option.bind_some _ _).symm.trans H; rw [hy147]; with_reducible exact H2_) | (have H2_ := (Option.bind_some _ _).symm.trans H; with_reducible exact H2_) | with_reducible exact H | (rw [hy147]; exact H) | exact H
             have Ny147 := Aside0.mk hy147
             clear hy147
             have H' := Aside0.mk H
             clear H
             try go_wp2
             have n0_ := Aside0.mk (Kd.R_drew HO_7.out)
             have n1_ := Aside0.mk (blk_drew BK128.out)
             have n2_ := Aside0.mk (blk_drew BK129.out)
             have n3_ := Aside0.mk (blk_drew BK130.out)
             have n4_ := Aside0.mk (blk_drew BK135.out)
             have n5_ := Aside0.mk (blk_drew BK141.out)
             have n6_ := Aside0.mk (below_drew1 HB.out)
             clear HO_7
             clear BK128
             clear BK129
             clear BK130
             clear BK135
             clear BK141
             clear HB
             have HO_7 := n0_
             have BK128 := n1_
             have BK129 := n2_
             have BK130 := n3_
             have BK135 := n4_
             have BK141 := n5_
             have HB := n6_
             clear n0_ n1_ n2_ n3_ n4_ n5_ n6_
             obtain ⟨Ao68, co68, eo68⟩ := Kd.R_slice HO_7.out
             (first | subst eo68 | (injection eo68 with f1_ f2_ f3_; have f4_ := f1_.symm; have f5_ := f3_.symm; clear f1_ f2_ f3_; subst f4_; subst f5_))
             obtain ⟨_, hown68⟩ := Kd.R_own HO_7.out
             have hco68 := own_le hown68
             clear hown68
             refine start_ (n := 10) (S := fun w' => w'.cell? ⟨gb141, 0, none⟩ = some (.int .i64 t136) ∧ w'.cell? ⟨gb141, 1, none⟩ = some (.int .i64 t137) ∧ w'.cell? ⟨gb141, 2, none⟩ = some (.int .i64 t138) ∧ w'.cell? ⟨gb141, 3, none⟩ = some (.int .i64 t139) ∧ w'.cell? ⟨gb141, 4, none⟩ = some (.int .i64 t140) ∧ w'.cell? ⟨gb141, 5, none⟩ = some (.int .i64 ((rd_T64 l0_1 x21_1).f2)) ∧ w'.cell? ⟨gb141, 6, none⟩ = some (.bool ((rd_T64 l0_1 x21_1).f3)) ∧ w'.cell? ⟨gb141, 7, none⟩ = some (.int .i64 x142007_18) ∧ w'.cell? ⟨gb141, 8, none⟩ = some (.int .i64 x142008_18) ∧ w'.cell? ⟨gb141, 9, none⟩ = some (.int .i64 x142009_18) ∧ w'.cell? ⟨gb141, 10, none⟩ = some (.int .i64 x142010_18) ∧ w'.cell? ⟨gb141, 11, none⟩ = some (.int .i64 x142011_18)) (ds := []) (bsq 0 10) (by kernel_rfl) rfl rfl ⟨(blk_cell BK141.out 0).trans rfl, (blk_cell BK141.out 1).trans rfl, (blk_cell BK141.out 2).trans rfl, (blk_cell BK141.out 3).trans rfl, (blk_cell BK141.out 4).trans rfl, (blk_cell BK141.out 5).trans rfl, (blk_cell BK141.out 6).trans rfl, (blk_cell BK141.out 7).trans rfl, (blk_cell BK141.out 8).trans rfl, (blk_cell BK141.out 9).trans rfl, (blk_cell BK141.out 10).trans rfl, (blk_cell BK141.out 11).trans rfl⟩ (fun hHeld => ?_); refine with_tabW trigauto_Compile.tab13 trigauto_Compile.bits13 (fun HT_ HW_ => ?_)
             generalize wr.drew = w67 at HO_7 BK128 BK129 BK130 BK135 BK141 HB hHeld ⊢
             refine pure_ (i := 0) (N := some 45) (v := ?_) (a' := ?_) (bsq 1 9) rfl rfl (any_of HT_.out (by kernel_rfl)) (fun _ _ _ h => h) (Or.inl ⟨by rfl, ?_⟩) ?_ ?_
             rotate_left
             ·
              intro w'
              go_simp
              with_reducible rfl
             rotate_left
             ·
              simp only [Act.put, List.setIfInBounds_toArray, List.set_cons_zero, List.set_cons_succ, i64_w, i32_w]
              rfl
             refine pure_ (i := 1) (N := some 46) (v := ?_) (a' := ?_) (bsq 2 8) rfl rfl (any_of HT_.out (by kernel_rfl)) (fun _ _ _ h => h) (Or.inl ⟨by rfl, ?_⟩) ?_ ?_
             rotate_left
             ·
              intro w'
              go_simp
              with_reducible rfl
             rotate_left
             ·
              simp only [Act.put, List.setIfInBounds_toArray, List.set_cons_zero, List.set_cons_succ, i64_w, i32_w]
              rfl
             refine pure_ (i := 2) (N := some 47) (v := ?_) (a' := ?_) (bsq 3 7) rfl rfl (any_of HT_.out (by kernel_rfl)) (fun _ _ _ h => h) (Or.inl ⟨by rfl, ?_⟩) ?_ ?_
             rotate_left
             ·
              intro w'
              go_simp
              with_reducible rfl
             rotate_left
             ·
              simp only [Act.put, List.setIfInBounds_toArray, List.set_cons_zero, List.set_cons_succ, i64_w, i32_w]
              rfl
             refine pure_ (i := 3) (N := some 48) (v := ?_) (a' := ?_) (bsq 4 6) rfl rfl (any_of HT_.out (by kernel_rfl)) (fun _ _ _ h => h) (Or.inl ⟨by rfl, ?_⟩) ?_ ?_
             rotate_left
             ·
              intro w'
              go_simp
              with_reducible rfl
             rotate_left
             ·
              simp only [Act.put, List.setIfInBounds_toArray, List.set_cons_zero, List.set_cons_succ, i64_w, i32_w]
              rfl
             refine pure_ (i := 4) (N := some 49) (v := ?_) (a' := ?_) (bsq 5 5) rfl rfl (any_of HT_.out (by kernel_rfl)) (fun _ _ _ h => h) (Or.inl ⟨by rfl, ?_⟩) ?_ ?_
             rotate_left
             ·
              intro w'
              go_simp
              with_reducible rfl
             rotate_left
             ·
              simp only [Act.put, List.setIfInBounds_toArray, List.set_cons_zero, List.set_cons_succ, i64_w, i32_w]
              rfl
             refine pure_ (i := 5) (N := some 50) (v := ?_) (a' := ?_) (bsq 6 4) rfl rfl (any_of HT_.out (by kernel_rfl)) (fun _ _ _ h => h) (Or.inl ⟨by rfl, ?_⟩) ?_ ?_
             rotate_left
             ·
              intro w'
              go_simp
              with_reducible rfl
             rotate_left
             ·
              simp only [Act.put, List.setIfInBounds_toArray, List.set_cons_zero, List.set_cons_succ, i64_w, i32_w]
              rfl
             refine take_ (i := 6) (N := some 51) (v := ?_) (a' := ?_) (bsq 7 3) rfl rfl (take_ofW HT_.out HW_.out (by kernel_rfl)) (fun _ _ _ h => h) (Or.inl ⟨by rfl, ?_⟩) hHeld ?_ ?_
             rotate_left
             ·
              rintro w' ⟨s0, s1, s2, s3, s4, s5, s6, s7, s8, s9, s10, s11⟩
              go_simp
              with_reducible rfl
             rotate_left
             ·
              simp only [Act.put, List.setIfInBounds_toArray, List.set_cons_zero, List.set_cons_succ, i64_w, i32_w]
              rfl
             refine one_ (i := 7) (N := some 52) (bsq 8 2) rfl rfl (one_of HT_.out (by kernel_rfl)) (by decide) (fun K hK => ?_)
             refine value_ (w1 := ?_) (v := ?_) (by rfl) rfl ?_ ?_
             rotate_left 2
             ·
              go_simp
              constructor
              ·
               rfl
              ·
               rfl
             refine hK.out _ _ ⟨(blk_cell (blk_alloc BK141.out _) 0).trans rfl, (blk_cell (blk_alloc BK141.out _) 1).trans rfl, (blk_cell (blk_alloc BK141.out _) 2).trans rfl, (blk_cell (blk_alloc BK141.out _) 3).trans rfl, (blk_cell (blk_alloc BK141.out _) 4).trans rfl, (blk_cell (blk_alloc BK141.out _) 5).trans rfl, (blk_cell (blk_alloc BK141.out _) 6).trans rfl, (blk_cell (blk_alloc BK141.out _) 7).trans rfl, (blk_cell (blk_alloc BK141.out _) 8).trans rfl, (blk_cell (blk_alloc BK141.out _) 9).trans rfl, (blk_cell (blk_alloc BK141.out _) 10).trans rfl, (blk_cell (blk_alloc BK141.out _) 11).trans rfl⟩ (fun hHeld => ?_)
             clear hK K
             refine norm_ (a' := ?_) ?_ ?_
             rotate_left
             ·
              show Act.put _ (some 52) _ = _
              simp only [Act.put, List.setIfInBounds_toArray, List.set_cons_zero, List.set_cons_succ, i64_w, i32_w]
              rfl
             refine one_ (i := 8) (N := some 53) (bsq 9 1) rfl rfl (one_of HT_.out (by kernel_rfl)) (by decide) (fun K hK => ?_)
             refine Kd.R_append_step_cut k50 (w0 := w) w.heap.size rfl (.tmp 50) (.tmp 52) 29 50 (.agg #[(.int .i64 0), (.int .i64 0), (.int .i64 0), (.int .i64 0), (.int .i64 0), (.int .i64 0), (.bool false), (.int .i64 0), (.int .i64 0), (.int .i64 0), (.int .i64 0), (.int .i64 0)]) 96 rfl Try.underlying29 info50 rfl (by decide) (by omega) Ao68 co68 x7_3 (⟨(⟨t136, t137, t138, t139, t140⟩ : S42), ((rd_T64 l0_1 x21_1).f2), ((rd_T64 l0_1 x21_1).f3), (⟨x142007_18, x142008_18, x142009_18, x142010_18, x142011_18⟩ : S42)⟩ : S50) [.int .i64 t136, .int .i64 t137, .int .i64 t138, .int .i64 t139, .int .i64 t140, .int .i64 ((rd_T64 l0_1 x21_1).f2), .bool ((rd_T64 l0_1 x21_1).f3), .int .i64 x142007_18, .int .i64 x142008_18, .int .i64 x142009_18, .int .i64 x142010_18, .int .i64 x142011_18] (fun k_ => k_ ≠ gb141) (fun _ => False) rfl rfl ?aP (fun _ hk => hk.elim) ?aF ?aO ?aB ?aS ?aL ?aM ?_
             (case aM => have := LMc66.out; unfold maxLen; omega)
             (case aP => exact k50_mkM _ _ _ (⟨(⟨t136, t137, t138, t139, t140⟩ : S42), ((rd_T64 l0_1 x21_1).f2), ((rd_T64 l0_1 x21_1).f3), (⟨x142007_18, x142008_18, x142009_18, x142010_18, x142011_18⟩ : S42)⟩ : S50))
             (case aB => exact (bs HB.out))
             (case aF => exact (fun k_ hk => Kd.freshB (g := gb141) (o := .cells #[.int .i64 t136, .int .i64 t137, .int .i64 t138, .int .i64 t139, .int .i64 t140, .int .i64 ((rd_T64 l0_1 x21_1).f2), .bool ((rd_T64 l0_1 x21_1).f3), .int .i64 x142007_18, .int .i64 x142008_18, .int .i64 x142009_18, .int .i64 x142010_18, .int .i64 x142011_18] 50 (0, 0)) (bg BK141.out) k_ hk))
             (case aO => exact (by (with_reducible repeat (first | apply Kd.R_alloc | apply Kd.R_drewN | apply Kd.R_drew)); exact HO_7.out))
             (case aS => exact (below_size (bs HB.out)))
             (case aL => have := LMc66.out; omega)
             intro v148 w69 ho hb hg hat
             rw [← Ny147.out] at ho
             have n0_ := Aside0.mk (blk_grown (g := gb128) (o := .cells #[.string a0_0, .slice (some ad134) l0_1.length c0_1] 24 (0, 0)) (bg BK128.out) hg (Kd.R_ne HO_7.out BK128.out (by decide)))
             have n1_ := Aside0.mk (blk_grown (g := gb129) (o := .cells #[.slice A1_0 l1_0.length c1_0, .slice A1_1 l1_1.length c1_1] 28 (0, 0)) (bg BK129.out) hg (Kd.R_ne HO_7.out BK129.out (by decide)))
             have n2_ := Aside0.mk (blk_grown (g := gb130) (o := .cells #[.slice none 0 0] 31 (0, 0)) (bg BK130.out) hg (Kd.R_ne HO_7.out BK130.out (by decide)))
             have n3_ := Aside0.mk (blk_grown (g := gb135) (o := .cells #[.string ((rd_T64 l0_1 x21_1).f0.f0), .int .i64 ((rd_T64 l0_1 x21_1).f0.f1), .int .i64 ((rd_T64 l0_1 x21_1).f0.f2), .int .i64 ((rd_T64 l0_1 x21_1).f0.f3), .int .i64 ((rd_T64 l0_1 x21_1).f0.f4), .int .i64 ((rd_T64 l0_1 x21_1).f1), .int .i64 ((rd_T64 l0_1 x21_1).f2), .bool ((rd_T64 l0_1 x21_1).f3), .string ((rd_T64 l0_1 x21_1).f4.f0), .int .i64 ((rd_T64 l0_1 x21_1).f4.f1), .int .i64 ((rd_T64 l0_1 x21_1).f4.f2), .int .i64 ((rd_T64 l0_1 x21_1).f4.f3), .int .i64 ((rd_T64 l0_1 x21_1).f4.f4)] 64 (0, 0)) (bg BK135.out) hg (Kd.R_ne HO_7.out BK135.out (by decide)))
             have n4_ := Aside0.mk (blk_grown (g := gb141) (o := .cells #[.int .i64 t136, .int .i64 t137, .int .i64 t138, .int .i64 t139, .int .i64 t140, .int .i64 ((rd_T64 l0_1 x21_1).f2), .bool ((rd_T64 l0_1 x21_1).f3), .int .i64 x142007_18, .int .i64 x142008_18, .int .i64 x142009_18, .int .i64 x142010_18, .int .i64 x142011_18] 50 (0, 0)) (bg BK141.out) hg (Kd.R_away HO_7.out (fun _ hk => hk)))
             have n5_ := Aside0.mk (hb)
             have n6_ := Aside0.mk (ho)
             clear BK128
             clear BK129
             clear BK130
             clear BK135
             clear BK141
             clear HB
             clear HO_7
             have BK128 := n0_
             have BK129 := n1_
             have BK130 := n2_
             have BK135 := n3_
             have BK141 := n4_
             have HB := n5_
             have HO149 := n6_
             clear n0_ n1_ n2_ n3_ n4_ n5_ n6_
             clear ho hb hg hat
             refine hK.out _ _ ⟨(blk_cell BK141.out 0).trans rfl, (blk_cell BK141.out 1).trans rfl, (blk_cell BK141.out 2).trans rfl, (blk_cell BK141.out 3).trans rfl, (blk_cell BK141.out 4).trans rfl, (blk_cell BK141.out 5).trans rfl, (blk_cell BK141.out 6).trans rfl, (blk_cell BK141.out 7).trans rfl, (blk_cell BK141.out 8).trans rfl, (blk_cell BK141.out 9).trans rfl, (blk_cell BK141.out 10).trans rfl, (blk_cell BK141.out 11).trans rfl⟩ (fun hHeld => ?_)
             clear hK K
             refine norm_ (a' := ?_) ?_ ?_
             rotate_left
             ·
              show Act.put _ (some 53) _ = _
              simp only [Act.put, List.setIfInBounds_toArray, List.set_cons_zero, List.set_cons_succ, i64_w, i32_w]
              rfl
             refine pure_ (i := 9) (N := some 7) (v := ?_) (a' := ?_) (bsq 10 0) rfl rfl (any_of HT_.out (by kernel_rfl)) (fun _ _ _ h => h) (Or.inl ⟨by rfl, ?_⟩) ?_ ?_
             rotate_left
             ·
              intro w'
              go_simp
              with_reducible rfl
             rotate_left
             ·
              simp only [Act.put, List.setIfInBounds_toArray, List.set_cons_zero, List.set_cons_succ, i64_w, i32_w]
              rfl
             refine done_ (done_of HT_.out (by kernel_rfl)) ?_
             try go_wp2
             go_roundg k3
             case measure => have := HK1.out; have := HJ18.out; have := HK3.out; omega
             case rel => exact ⟨(y147), (wrap64 (x43_3 + 1)), (by first | rfl | (simp; done) | (simp [*]; done)), H', ⟨by have := HK1.out; have := HJ18.out; have := HK3.out; omega⟩, ⟨by (with_reducible repeat (first | apply Kd.R_alloc | apply Kd.R_drewN | apply Kd.R_drew)); exact HO149.out⟩, ⟨bg BK128.out⟩, ⟨bg BK129.out⟩, ⟨bg BK130.out⟩, ⟨bg BK135.out⟩, ⟨bg BK141.out⟩, ⟨bs HB.out⟩⟩
            ·
             rw [if_neg c66] at H
             exact absurd H (by simp)
           ·
            rw [if_neg c65] at H
            have c65b0 : decide (x43_3 < ((rd_T64 l0_1 x21_1).f1)) = false := decide_eq_false c65
            clear c65
            have H' := Aside0.mk H
            clear H
            go_wp2
            go_roundg k3
            case measure => have := HK1.out; have := HJ18.out; have := HK3.out; omega
            case rel => exact ⟨(x7_3), (wrap64 (x21_1 + 1)), (by first | rfl | (simp; done) | (simp [*]; done)), H', ⟨by have := HK1.out; have := HJ18.out; have := HK3.out; omega⟩, ⟨by (with_reducible repeat (first | apply Kd.R_alloc | apply Kd.R_drewN | apply Kd.R_drew)); exact Kd.R_mono HO_7.out (fun _ hk => trivial)⟩, ⟨bg BK128.out⟩, ⟨bg BK129.out⟩, ⟨bg BK130.out⟩, ⟨bs HB.out⟩⟩
      ·
       rw [if_neg c17] at H
       exact absurd H (by simp)
     ·
      rw [if_neg c16] at H
      exact absurd H (by simp)
    ·
     rw [if_neg c15] at H
     have c15b0 : decide (x21_1 < (l0_1.length : Int)) = false := decide_eq_false c15
     clear c15
     by_cases c70 : 0 < (x7_1.length : Int)
     ·
      rw [if_pos c70] at H
      have c70b0 : decide (0 < (x7_1.length : Int)) = true := decide_eq_true c70
      have c70b1 : decide (0 < x7_1.length) = true := decide_eq_true (by omega)
      clear c70
      obtain ⟨y133, hy133⟩ : ∃ y_ : List (S50), y_ = (x7_1.set (0 : Int).toNat (⟨(⟨(rd_T50 x7_1 0).f0.f0, (rd_T50 x7_1 0).f0.f1, (rd_T50 x7_1 0).f0.f2, (rd_T50 x7_1 0).f0.f3, (rd_T50 x7_1 0).f0.f4⟩ : S42), 0, false, (⟨0, 0, 0, 0, 0⟩ : S42)⟩ : S50)) := ⟨_, rfl⟩
      replace H : (some (y133, 0)) = some (r1, r2) := by first | (rw [hy133]; with_reducible exact H) | (have H2_ := (Option.bind_some _ _).symm.trans H; rw [hy133]; with_reducible exact H2_) | (have H2_ := (Option.bind_some _ _).symm.trans H; with_reducible exact H2_) | with_reducible exact H | (rw [hy133]; exact H) | exact H
      have Ny133 := Aside0.mk hy133
      clear hy133
      simp only [Option.some.injEq, Prod.mk.injEq] at H
      obtain ⟨rfl, rfl⟩ := H
      obtain ⟨Ao72, co72, eo72⟩ := Kd.R_slice HO_7.out
      subst eo72
      have p132 : 0 ≤ (0 : Int) := (by omega)
      have q132 : 0 < (x7_1.length : Int) := of_decide_eq_true (by first | (with_reducible assumption) | assumption)
      obtain ⟨ad132, e132, hx132_0, hx132_1, hx132_2, hx132_3, hx132_4, hx132_5, hx132_6, hx132_7, hx132_8, hx132_9, hx132_10, hx132_11⟩ := at_T50 (Kd.R_reads' HO_7.out).2.2 0 p132 q132
      cases e132
      have qi132 : (0 < x7_1.length) = True := eq_true (by omega)
      (try rw [show ((0 : Int)).toNat = 0 from rfl] at hx132_0)
      (try rw [show 0 * 12 = 0 from rfl] at hx132_0)
      (try rw [Addr.add_zero'] at hx132_0)
      (try rw [show ((0 : Int)).toNat = 0 from rfl] at hx132_1)
      (try rw [show 0 * 12 = 0 from rfl] at hx132_1)
      (try rw [Addr.add_zero'] at hx132_1)
      (try rw [show ((0 : Int)).toNat = 0 from rfl] at hx132_2)
      (try rw [show 0 * 12 = 0 from rfl] at hx132_2)
      (try rw [Addr.add_zero'] at hx132_2)
      (try rw [show ((0 : Int)).toNat = 0 from rfl] at hx132_3)
      (try rw [show 0 * 12 = 0 from rfl] at hx132_3)
      (try rw [Addr.add_zero'] at hx132_3)
      (try rw [show ((0 : Int)).toNat = 0 from rfl] at hx132_4)
      (try rw [show 0 * 12 = 0 from rfl] at hx132_4)
      (try rw [Addr.add_zero'] at hx132_4)
      (try rw [show ((0 : Int)).toNat = 0 from rfl] at hx132_5)
      (try rw [show 0 * 12 = 0 from rfl] at hx132_5)
      (try rw [Addr.add_zero'] at hx132_5)
      (try rw [show ((0 : Int)).toNat = 0 from rfl] at hx132_6)
      (try rw [show 0 * 12 = 0 from rfl] at hx132_6)
      (try rw [Addr.add_zero'] at hx132_6)
      (try rw [show ((0 : Int)).toNat = 0 from rfl] at hx132_7)
      (try rw [show 0 * 12 = 0 from rfl] at hx132_7)
      (try rw [Addr.add_zero'] at hx132_7)
      (try rw [show ((0 : Int)).toNat = 0 from rfl] at hx132_8)
      (try rw [show 0 * 12 = 0 from rfl] at hx132_8)
      (try rw [Addr.add_zero'] at hx132_8)
      (try rw [show ((0 : Int)).toNat = 0 from rfl] at hx132_9)
      (try rw [show 0 * 12 = 0 from rfl] at hx132_9)
      (try rw [Addr.add_zero'] at hx132_9)
      (try rw [show ((0 : Int)).toNat = 0 from rfl] at hx132_10)
      (try rw [show 0 * 12 = 0 from rfl] at hx132_10)
      (try rw [Addr.add_zero'] at hx132_10)
      (try rw [show ((0 : Int)).toNat = 0 from rfl] at hx132_11)
      (try rw [show 0 * 12 = 0 from rfl] at hx132_11)
      (try rw [Addr.add_zero'] at hx132_11)
      replace p132 := eq_true p132
      replace q132 := eq_true q132
      have p71 : 0 ≤ (0 : Int) := (by omega)
      have q71 : (0 : Int) < ((x7_1.length : Int) : Int) := of_decide_eq_true (by first | (with_reducible assumption) | assumption)
      have qi71 : (0 < x7_1.length) = True := eq_true (by omega)
      obtain ⟨go71, co71, eo71, gb71, gl71, cl71, HG71⟩ := Kd.R_form HO_7.out (by omega)
      (first | cases eo71 | (injection eo71 with ea_ en_ ec_; (first | subst ea_ | (injection ea_ with ea_; subst ea_)); subst ec_; clear en_))
      have GB71 := Aside0.mk gb71
      have GG71 := Aside0.mk HG71
      clear gb71 gl71 HG71
      (first | simp only [add_plain] at hx132_0 | skip)
      (first | simp only [add_plain] at hx132_1 | skip)
      (first | simp only [add_plain] at hx132_2 | skip)
      (first | simp only [add_plain] at hx132_3 | skip)
      (first | simp only [add_plain] at hx132_4 | skip)
      (first | simp only [add_plain] at hx132_5 | skip)
      (first | simp only [add_plain] at hx132_6 | skip)
      (first | simp only [add_plain] at hx132_7 | skip)
      (first | simp only [add_plain] at hx132_8 | skip)
      (first | simp only [add_plain] at hx132_9 | skip)
      (first | simp only [add_plain] at hx132_10 | skip)
      (first | simp only [add_plain] at hx132_11 | skip)
      obtain ⟨ce71, hcl71, hM71, hcc71, hfr71⟩ := Kd.R_elem HO_7.out z50 (0 : Int) p71 q71
      obtain rfl := k50_openM hM71
      have hx71_0 : wr.cell? ⟨go71, (0 : Int).toNat * 12, none⟩ = some (.int .i64 ((rd_T50 x7_1 0).f0.f0)) := hcc71 0 _ rfl
      have hx71_1 : wr.cell? ⟨go71, (0 : Int).toNat * 12 + 1, none⟩ = some (.int .i64 ((rd_T50 x7_1 0).f0.f1)) := hcc71 1 _ rfl
      have hx71_2 : wr.cell? ⟨go71, (0 : Int).toNat * 12 + 2, none⟩ = some (.int .i64 ((rd_T50 x7_1 0).f0.f2)) := hcc71 2 _ rfl
      have hx71_3 : wr.cell? ⟨go71, (0 : Int).toNat * 12 + 3, none⟩ = some (.int .i64 ((rd_T50 x7_1 0).f0.f3)) := hcc71 3 _ rfl
      have hx71_4 : wr.cell? ⟨go71, (0 : Int).toNat * 12 + 4, none⟩ = some (.int .i64 ((rd_T50 x7_1 0).f0.f4)) := hcc71 4 _ rfl
      have hx71_5 : wr.cell? ⟨go71, (0 : Int).toNat * 12 + 5, none⟩ = some (.int .i64 ((rd_T50 x7_1 0).f1)) := hcc71 5 _ rfl
      have hx71_6 : wr.cell? ⟨go71, (0 : Int).toNat * 12 + 6, none⟩ = some (.bool ((rd_T50 x7_1 0).f2)) := hcc71 6 _ rfl
      have hx71_7 : wr.cell? ⟨go71, (0 : Int).toNat * 12 + 7, none⟩ = some (.int .i64 ((rd_T50 x7_1 0).f3.f0)) := hcc71 7 _ rfl
      have hx71_8 : wr.cell? ⟨go71, (0 : Int).toNat * 12 + 8, none⟩ = some (.int .i64 ((rd_T50 x7_1 0).f3.f1)) := hcc71 8 _ rfl
      have hx71_9 : wr.cell? ⟨go71, (0 : Int).toNat * 12 + 9, none⟩ = some (.int .i64 ((rd_T50 x7_1 0).f3.f2)) := hcc71 9 _ rfl
      have hx71_10 : wr.cell? ⟨go71, (0 : Int).toNat * 12 + 10, none⟩ = some (.int .i64 ((rd_T50 x7_1 0).f3.f3)) := hcc71 10 _ rfl
      have hx71_11 : wr.cell? ⟨go71, (0 : Int).toNat * 12 + 11, none⟩ = some (.int .i64 ((rd_T50 x7_1 0).f3.f4)) := hcc71 11 _ rfl
      have hf71_0 : wr.frozen? ⟨go71, (0 : Int).toNat * 12, none⟩ = false := hfr71 0
      have hf71_1 : wr.frozen? ⟨go71, (0 : Int).toNat * 12 + 1, none⟩ = false := hfr71 1
      have hf71_2 : wr.frozen? ⟨go71, (0 : Int).toNat * 12 + 2, none⟩ = false := hfr71 2
      have hf71_3 : wr.frozen? ⟨go71, (0 : Int).toNat * 12 + 3, none⟩ = false := hfr71 3
      have hf71_4 : wr.frozen? ⟨go71, (0 : Int).toNat * 12 + 4, none⟩ = false := hfr71 4
      have hf71_5 : wr.frozen? ⟨go71, (0 : Int).toNat * 12 + 5, none⟩ = false := hfr71 5
      have hf71_6 : wr.frozen? ⟨go71, (0 : Int).toNat * 12 + 6, none⟩ = false := hfr71 6
      have hf71_7 : wr.frozen? ⟨go71, (0 : Int).toNat * 12 + 7, none⟩ = false := hfr71 7
      have hf71_8 : wr.frozen? ⟨go71, (0 : Int).toNat * 12 + 8, none⟩ = false := hfr71 8
      have hf71_9 : wr.frozen? ⟨go71, (0 : Int).toNat * 12 + 9, none⟩ = false := hfr71 9
      have hf71_10 : wr.frozen? ⟨go71, (0 : Int).toNat * 12 + 10, none⟩ = false := hfr71 10
      have hf71_11 : wr.frozen? ⟨go71, (0 : Int).toNat * 12 + 11, none⟩ = false := hfr71 11
      clear hcl71 hcc71 hfr71; (try clear hM71)
      (try rw [show ((0 : Int)).toNat = 0 from rfl] at hx71_0)
      (try simp only [Nat.reduceMul, Nat.zero_mul, Nat.zero_add, Nat.reduceAdd] at hx71_0)
      (try rw [show ((0 : Int)).toNat = 0 from rfl] at hf71_0)
      (try simp only [Nat.reduceMul, Nat.zero_mul, Nat.zero_add, Nat.reduceAdd] at hf71_0)
      (try rw [show ((0 : Int)).toNat = 0 from rfl] at hx71_1)
      (try simp only [Nat.reduceMul, Nat.zero_mul, Nat.zero_add, Nat.reduceAdd] at hx71_1)
      (try rw [show ((0 : Int)).toNat = 0 from rfl] at hf71_1)
      (try simp only [Nat.reduceMul, Nat.zero_mul, Nat.zero_add, Nat.reduceAdd] at hf71_1)
      (try rw [show ((0 : Int)).toNat = 0 from rfl] at hx71_2)
      (try simp only [Nat.reduceMul, Nat.zero_mul, Nat.zero_add, Nat.reduceAdd] at hx71_2)
      (try rw [show ((0 : Int)).toNat = 0 from rfl] at hf71_2)
      (try simp only [Nat.reduceMul, Nat.zero_mul, Nat.zero_add, Nat.reduceAdd] at hf71_2)
      (try rw [show ((0 : Int)).toNat = 0 from rfl] at hx71_3)
      (try simp only [Nat.reduceMul, Nat.zero_mul, Nat.zero_add, Nat.reduceAdd] at hx71_3)
      (try rw [show ((0 : Int)).toNat = 0 from rfl] at hf71_3)
      (try simp only [Nat.reduceMul, Nat.zero_mul, Nat.zero_add, Nat.reduceAdd] at hf71_3)
      (try rw [show ((0 : Int)).toNat = 0 from rfl] at hx71_4)
      (try simp only [Nat.reduceMul, Nat.zero_mul, Nat.zero_add, Nat.reduceAdd] at hx71_4)
      (try rw [show ((0 : Int)).toNat = 0 from rfl] at hf71_4)
      (try simp only [Nat.reduceMul, Nat.zero_mul, Nat.zero_add, Nat.reduceAdd] at hf71_4)
      (try rw [show ((0 : Int)).toNat = 0 from rfl] at hx71_5)
      (try simp only [Nat.reduceMul, Nat.zero_mul, Nat.zero_add, Nat.reduceAdd] at hx71_5)
      (try rw [show ((0 : Int)).toNat = 0 from rfl] at hf71_5)
      (try simp only [Nat.reduceMul, Nat.zero_mul, Nat.zero_add, Nat.reduceAdd] at hf71_5)
      (try rw [show ((0 : Int)).toNat = 0 from rfl] at hx71_6)
      (try simp only [Nat.reduceMul, Nat.zero_mul, Nat.zero_add, Nat.reduceAdd] at hx71_6)
      (try rw [show ((0 : Int)).toNat = 0 from rfl] at hf71_6)
      (try simp only [Nat.reduceMul, Nat.zero_mul, Nat.zero_add, Nat.reduceAdd] at hf71_6)
      (try rw [show ((0 : Int)).toNat = 0 from rfl] at hx71_7)
      (try simp only [Nat.reduceMul, Nat.zero_mul, Nat.zero_add, Nat.reduceAdd] at hx71_7)
      (try rw [show ((0 : Int)).toNat = 0 from rfl] at hf71_7)
      (try simp only [Nat.reduceMul, Nat.zero_mul, Nat.zero_add, Nat.reduceAdd] at hf71_7)
      (try rw [show ((0 : Int)).toNat = 0 from rfl] at hx71_8)
      (try simp only [Nat.reduceMul, Nat.zero_mul, Nat.zero_add, Nat.reduceAdd] at hx71_8)
      (try rw [show ((0 : Int)).toNat = 0 from rfl] at hf71_8)
      (try simp only [Nat.reduceMul, Nat.zero_mul, Nat.zero_add, Nat.reduceAdd] at hf71_8)
      (try rw [show ((0 : Int)).toNat = 0 from rfl] at hx71_9)
      (try simp only [Nat.reduceMul, Nat.zero_mul, Nat.zero_add, Nat.reduceAdd] at hx71_9)
      (try rw [show ((0 : Int)).toNat = 0 from rfl] at hf71_9)
      (try simp only [Nat.reduceMul, Nat.zero_mul, Nat.zero_add, Nat.reduceAdd] at hf71_9)
      (try rw [show ((0 : Int)).toNat = 0 from rfl] at hx71_10)
      (try simp only [Nat.reduceMul, Nat.zero_mul, Nat.zero_add, Nat.reduceAdd] at hx71_10)
      (try rw [show ((0 : Int)).toNat = 0 from rfl] at hf71_10)
      (try simp only [Nat.reduceMul, Nat.zero_mul, Nat.zero_add, Nat.reduceAdd] at hf71_10)
      (try rw [show ((0 : Int)).toNat = 0 from rfl] at hx71_11)
      (try simp only [Nat.reduceMul, Nat.zero_mul, Nat.zero_add, Nat.reduceAdd] at hx71_11)
      (try rw [show ((0 : Int)).toNat = 0 from rfl] at hf71_11)
      (try simp only [Nat.reduceMul, Nat.zero_mul, Nat.zero_add, Nat.reduceAdd] at hf71_11)
      replace p71 := eq_true p71
      replace q71 := eq_true q71
      have HX73 := Aside0.mk (show Kd.R k50 50 wr w.heap.size (fun _ => True) (.slice (some ⟨go71, 0, none⟩) x7_1.length co72) x7_1 from (by (with_reducible repeat (first | apply Kd.R_alloc | apply Kd.R_drewN | apply Kd.R_drew)); exact HO_7.out))
      obtain ⟨ce73, hcl73, hM73, hcc73, hfr73⟩ := Kd.R_elem HX73.out z50 (0 : Int) (by omega) (by have h_ : (0 : Int) < ((x7_1.length : Int) : Int) := of_decide_eq_true (by first | (with_reducible assumption) | assumption); first | exact h_ | (have e_ := (Kd.R_reads' HO_7.out).1; omega) | simpa using h_)
      obtain rfl := k50_openM hM73
      have HP73 := Kd.R_seg HX73.out (0 : Int) (by omega) (by have h_ : (0 : Int) < ((x7_1.length : Int) : Int) := of_decide_eq_true (by first | (with_reducible assumption) | assumption); first | exact h_ | (have e_ := (Kd.R_reads' HO_7.out).1; omega) | simpa using h_) (seg := [.int .i64 ((rd_T50 x7_1 0).f0.f0), .int .i64 ((rd_T50 x7_1 0).f0.f1), .int .i64 ((rd_T50 x7_1 0).f0.f2), .int .i64 ((rd_T50 x7_1 0).f0.f3), .int .i64 ((rd_T50 x7_1 0).f0.f4), .int .i64 0, .bool false, .int .i64 0, .int .i64 0, .int .i64 0, .int .i64 0, .int .i64 0]) (j := 0) hcl73 hcc73 (show 12 ≤ 12 from by decide) (x' := (⟨(⟨(rd_T50 x7_1 0).f0.f0, (rd_T50 x7_1 0).f0.f1, (rd_T50 x7_1 0).f0.f2, (rd_T50 x7_1 0).f0.f3, (rd_T50 x7_1 0).f0.f4⟩ : S42), 0, false, (⟨0, 0, 0, 0, 0⟩ : S42)⟩ : S50)) (k50_mkM _ _ _ (⟨(⟨(rd_T50 x7_1 0).f0.f0, (rd_T50 x7_1 0).f0.f1, (rd_T50 x7_1 0).f0.f2, (rd_T50 x7_1 0).f0.f3, (rd_T50 x7_1 0).f0.f4⟩ : S42), 0, false, (⟨0, 0, 0, 0, 0⟩ : S42)⟩ : S50) ) (fun _ hk => hk)
      have hx73_0 := hcc73 0 _ rfl
      (try simp only [show (k50).sz = 12 from rfl, Nat.mul_one, Nat.add_zero] at hx73_0)
      (try rw [show ((0 : Int)).toNat = 0 from rfl] at hx73_0)
      (try simp only [Nat.reduceMul, Nat.zero_mul, Nat.zero_add, Nat.reduceAdd] at hx73_0)
      have hf73_0 := hfr73 0
      (try simp only [show (k50).sz = 12 from rfl, Nat.mul_one, Nat.add_zero] at hf73_0)
      (try rw [show ((0 : Int)).toNat = 0 from rfl] at hf73_0)
      (try simp only [Nat.reduceMul, Nat.zero_mul, Nat.zero_add, Nat.reduceAdd] at hf73_0)
      have hx73_1 := hcc73 1 _ rfl
      (try simp only [show (k50).sz = 12 from rfl, Nat.mul_one, Nat.add_zero] at hx73_1)
      (try rw [show ((0 : Int)).toNat = 0 from rfl] at hx73_1)
      (try simp only [Nat.reduceMul, Nat.zero_mul, Nat.zero_add, Nat.reduceAdd] at hx73_1)
      have hf73_1 := hfr73 1
      (try simp only [show (k50).sz = 12 from rfl, Nat.mul_one, Nat.add_zero] at hf73_1)
      (try rw [show ((0 : Int)).toNat = 0 from rfl] at hf73_1)
      (try simp only [Nat.reduceMul, Nat.zero_mul, Nat.zero_add, Nat.reduceAdd] at hf73_1)
      have hx73_2 := hcc73 2 _ rfl
      (try simp only [show (k50).sz = 12 from rfl, Nat.mul_one, Nat.add_zero] at hx73_2)
      (try rw [show ((0 : Int)).toNat = 0 from rfl] at hx73_2)
      (try simp only [Nat.reduceMul, Nat.zero_mul, Nat.zero_add, Nat.reduceAdd] at hx73_2)
      have hf73_2 := hfr73 2
      (try simp only [show (k50).sz = 12 from rfl, Nat.mul_one, Nat.add_zero] at hf73_2)
      (try rw [show ((0 : Int)).toNat = 0 from rfl] at hf73_2)
      (try simp only [Nat.reduceMul, Nat.zero_mul, Nat.zero_add, Nat.reduceAdd] at hf73_2)
      have hx73_3 := hcc73 3 _ rfl
      (try simp only [show (k50).sz = 12 from rfl, Nat.mul_one, Nat.add_zero] at hx73_3)
      (try rw [show ((0 : Int)).toNat = 0 from rfl] at hx73_3)
      (try simp only [Nat.reduceMul, Nat.zero_mul, Nat.zero_add, Nat.reduceAdd] at hx73_3)
      have hf73_3 := hfr73 3
      (try simp only [show (k50).sz = 12 from rfl, Nat.mul_one, Nat.add_zero] at hf73_3)
      (try rw [show ((0 : Int)).toNat = 0 from rfl] at hf73_3)
      (try simp only [Nat.reduceMul, Nat.zero_mul, Nat.zero_add, Nat.reduceAdd] at hf73_3)
      have hx73_4 := hcc73 4 _ rfl
      (try simp only [show (k50).sz = 12 from rfl, Nat.mul_one, Nat.add_zero] at hx73_4)
      (try rw [show ((0 : Int)).toNat = 0 from rfl] at hx73_4)
      (try simp only [Nat.reduceMul, Nat.zero_mul, Nat.zero_add, Nat.reduceAdd] at hx73_4)
      have hf73_4 := hfr73 4
      (try simp only [show (k50).sz = 12 from rfl, Nat.mul_one, Nat.add_zero] at hf73_4)
      (try rw [show ((0 : Int)).toNat = 0 from rfl] at hf73_4)
      (try simp only [Nat.reduceMul, Nat.zero_mul, Nat.zero_add, Nat.reduceAdd] at hf73_4)
      have hx73_5 := hcc73 5 _ rfl
      (try simp only [show (k50).sz = 12 from rfl, Nat.mul_one, Nat.add_zero] at hx73_5)
      (try rw [show ((0 : Int)).toNat = 0 from rfl] at hx73_5)
      (try simp only [Nat.reduceMul, Nat.zero_mul, Nat.zero_add, Nat.reduceAdd] at hx73_5)
      have hf73_5 := hfr73 5
      (try simp only [show (k50).sz = 12 from rfl, Nat.mul_one, Nat.add_zero] at hf73_5)
      (try rw [show ((0 : Int)).toNat = 0 from rfl] at hf73_5)
      (try simp only [Nat.reduceMul, Nat.zero_mul, Nat.zero_add, Nat.reduceAdd] at hf73_5)
      have hx73_6 := hcc73 6 _ rfl
      (try simp only [show (k50).sz = 12 from rfl, Nat.mul_one, Nat.add_zero] at hx73_6)
      (try rw [show ((0 : Int)).toNat = 0 from rfl] at hx73_6)
      (try simp only [Nat.reduceMul, Nat.zero_mul, Nat.zero_add, Nat.reduceAdd] at hx73_6)
      have hf73_6 := hfr73 6
      (try simp only [show (k50).sz = 12 from rfl, Nat.mul_one, Nat.add_zero] at hf73_6)
      (try rw [show ((0 : Int)).toNat = 0 from rfl] at hf73_6)
      (try simp only [Nat.reduceMul, Nat.zero_mul, Nat.zero_add, Nat.reduceAdd] at hf73_6)
      have hx73_7 := hcc73 7 _ rfl
      (try simp only [show (k50).sz = 12 from rfl, Nat.mul_one, Nat.add_zero] at hx73_7)
      (try rw [show ((0 : Int)).toNat = 0 from rfl] at hx73_7)
      (try simp only [Nat.reduceMul, Nat.zero_mul, Nat.zero_add, Nat.reduceAdd] at hx73_7)
      have hf73_7 := hfr73 7
      (try simp only [show (k50).sz = 12 from rfl, Nat.mul_one, Nat.add_zero] at hf73_7)
      (try rw [show ((0 : Int)).toNat = 0 from rfl] at hf73_7)
      (try simp only [Nat.reduceMul, Nat.zero_mul, Nat.zero_add, Nat.reduceAdd] at hf73_7)
      have hx73_8 := hcc73 8 _ rfl
      (try simp only [show (k50).sz = 12 from rfl, Nat.mul_one, Nat.add_zero] at hx73_8)
      (try rw [show ((0 : Int)).toNat = 0 from rfl] at hx73_8)
      (try simp only [Nat.reduceMul, Nat.zero_mul, Nat.zero_add, Nat.reduceAdd] at hx73_8)
      have hf73_8 := hfr73 8
      (try simp only [show (k50).sz = 12 from rfl, Nat.mul_one, Nat.add_zero] at hf73_8)
      (try rw [show ((0 : Int)).toNat = 0 from rfl] at hf73_8)
      (try simp only [Nat.reduceMul, Nat.zero_mul, Nat.zero_add, Nat.reduceAdd] at hf73_8)
      have hx73_9 := hcc73 9 _ rfl
      (try simp only [show (k50).sz = 12 from rfl, Nat.mul_one, Nat.add_zero] at hx73_9)
      (try rw [show ((0 : Int)).toNat = 0 from rfl] at hx73_9)
      (try simp only [Nat.reduceMul, Nat.zero_mul, Nat.zero_add, Nat.reduceAdd] at hx73_9)
      have hf73_9 := hfr73 9
      (try simp only [show (k50).sz = 12 from rfl, Nat.mul_one, Nat.add_zero] at hf73_9)
      (try rw [show ((0 : Int)).toNat = 0 from rfl] at hf73_9)
      (try simp only [Nat.reduceMul, Nat.zero_mul, Nat.zero_add, Nat.reduceAdd] at hf73_9)
      have hx73_10 := hcc73 10 _ rfl
      (try simp only [show (k50).sz = 12 from rfl, Nat.mul_one, Nat.add_zero] at hx73_10)
      (try rw [show ((0 : Int)).toNat = 0 from rfl] at hx73_10)
      (try simp only [Nat.reduceMul, Nat.zero_mul, Nat.zero_add, Nat.reduceAdd] at hx73_10)
      have hf73_10 := hfr73 10
      (try simp only [show (k50).sz = 12 from rfl, Nat.mul_one, Nat.add_zero] at hf73_10)
      (try rw [show ((0 : Int)).toNat = 0 from rfl] at hf73_10)
      (try simp only [Nat.reduceMul, Nat.zero_mul, Nat.zero_add, Nat.reduceAdd] at hf73_10)
      have hx73_11 := hcc73 11 _ rfl
      (try simp only [show (k50).sz = 12 from rfl, Nat.mul_one, Nat.add_zero] at hx73_11)
      (try rw [show ((0 : Int)).toNat = 0 from rfl] at hx73_11)
      (try simp only [Nat.reduceMul, Nat.zero_mul, Nat.zero_add, Nat.reduceAdd] at hx73_11)
      have hf73_11 := hfr73 11
      (try simp only [show (k50).sz = 12 from rfl, Nat.mul_one, Nat.add_zero] at hf73_11)
      (try rw [show ((0 : Int)).toNat = 0 from rfl] at hf73_11)
      (try simp only [Nat.reduceMul, Nat.zero_mul, Nat.zero_add, Nat.reduceAdd] at hf73_11)
      clear hcl73 hcc73 hfr73; (try clear hM73)
      go_wp2_with (first | ((with_reducible refine gate_store (t := 50) (p := 62) rfl ?_); refine store_event (t := 50) (p := 62) (v := ?vo_w74) (w1 := ((((((((((((wr.setCell ⟨go71, 0, none⟩ (.int .i64 ((rd_T50 x7_1 0).f0.f0))).setCell ⟨go71, 1, none⟩ (.int .i64 ((rd_T50 x7_1 0).f0.f1))).setCell ⟨go71, 2, none⟩ (.int .i64 ((rd_T50 x7_1 0).f0.f2))).setCell ⟨go71, 3, none⟩ (.int .i64 ((rd_T50 x7_1 0).f0.f3))).setCell ⟨go71, 4, none⟩ (.int .i64 ((rd_T50 x7_1 0).f0.f4))).setCell ⟨go71, 5, none⟩ (.int .i64 0)).setCell ⟨go71, 6, none⟩ (.bool false)).setCell ⟨go71, 7, none⟩ (.int .i64 0)).setCell ⟨go71, 8, none⟩ (.int .i64 0)).setCell ⟨go71, 9, none⟩ (.int .i64 0)).setCell ⟨go71, 10, none⟩ (.int .i64 0)).setCell ⟨go71, 11, none⟩ (.int .i64 0))) ?hg ?ho ?hn ?hr ?_; (case ho => rfl); (case hg => rfl); (case hn => rfl); (case hr => first | (go_simp; done) | (go_simp; rfl)); intro w74 hw; have hg : wr.grownBy w74 (some go71) := (by rw [hw]; exact HP73.2); have hp_ : Kd.R k50 50 w74 w.heap.size (fun _ => True) (.slice (some ⟨go71, 0, none⟩) x7_1.length co72) y133 := (by rw [hw, Ny133.out]; exact HP73.1); clear HP73; have n0_ := Aside0.mk (hp_); have n1_ := Aside0.mk (blk_grown (g := gb128) (o := .cells #[.string a0_0, .slice A0_1 l0_1.length c0_1] 24 (0, 0)) (bg BK128.out) hg (Kd.R_ne HO_7.out BK128.out (by decide))); have n2_ := Aside0.mk (blk_grown (g := gb129) (o := .cells #[.slice A1_0 l1_0.length c1_0, .slice A1_1 l1_1.length c1_1] 28 (0, 0)) (bg BK129.out) hg (Kd.R_ne HO_7.out BK129.out (by decide))); have n3_ := Aside0.mk (blk_grown (g := gb130) (o := .cells #[.slice none 0 0] 31 (0, 0)) (bg BK130.out) hg (Kd.R_ne HO_7.out BK130.out (by decide))); have n4_ := Aside0.mk ((by rw [hw]; exact below_set (below_set (below_set (below_set (below_set (below_set (below_set (below_set (below_set (below_set (below_set (below_set (HB.out) GB71.out) GB71.out) GB71.out) GB71.out) GB71.out) GB71.out) GB71.out) GB71.out) GB71.out) GB71.out) GB71.out) GB71.out : Below w.heap.size w w74)); clear HO_7; clear BK128; clear BK129; clear BK130; clear HB; have HO_7 := n0_; have BK128 := n1_; have BK129 := n2_; have BK130 := n3_; have HB := n4_; clear n0_ n1_ n2_ n3_ n4_; clear hg hw hp_; have hnb75 := NB130_128.out; have hnc75 := NB128_130.out; have hnb76 := NB130_129.out; have hnc76 := NB129_130.out; have hcz77_0 : w74.cell? ⟨gb130, 0, none⟩ = some (.slice none 0 0) := (blk_cell BK130.out 0).trans rfl; have hfz77_0 := blk_frozen BK130.out 0))
      refine bodyPost_ret (results_ct rfl _ _ gb130 31 #[.slice (some ⟨go71, 0, none⟩) x7_1.length co72] (0, 0) _ rfl (by (with_reducible repeat (first | refine blk_drewN ?_ _ | refine blk_drew ?_ | refine blk_alloc ?_ _)); refine blk_put (cs := #[.slice none 0 0]) ?_ 0 _ rfl; exact bg BK130.out) Try.underlying31 rfl (by kernel_rfl)) rfl ?_
      exact ⟨_, by first | rfl | (simp [errW_none, errW_some] <;> rfl) | (simp [*, errW_none, errW_some] <;> rfl), by (with_reducible repeat (first | apply Kd.R_alloc | apply Kd.R_drewN | apply Kd.R_drew)); exact Kd.R_mono (Kd.R_far (p := ⟨gb130, 0, none⟩) (Kd.R_types HO_7.out BK130.out (by decide)) (fun _ hk => hk.2) (.slice (some ⟨go71, 0, none⟩) x7_1.length co72)) (fun _ hk => trivial), bs HB.out⟩
     ·
      rw [if_neg c70] at H
      exact absurd H (by simp)
 ·
  rw [if_neg c4] at H
  have c4b0 : (t131 == 0) = false := beq_eq_false_iff_ne.mpr c4
  have c4b1 : (t131 != 0) = true := bne_iff_ne.mpr c4
  simp only [Option.some.injEq, Prod.mk.injEq] at H
  obtain ⟨rfl, rfl⟩ := H
  go_enter Try.func16, Try.ntmps16
  go_wp2_with (first | ((with_reducible refine gate_dst (N := 2) rfl ?_); refine box_event ?hg (N := 2) ?hd (cs := #[.string a0_0, .slice A0_1 l0_1.length c0_1]) (t := 24) ?hr ?_; (case hd => rfl); (case hg => rfl); (case hr => first | (go_simp; done) | (go_simp; rfl)); intro gb128 hg w78 hbox hb; have n0_ := Aside0.mk (below_step (bs HB.out) hb); have n1_ := Aside0.mk (hbox); have n2_ := Aside0.mk ((by rw [hg]; exact (below_size (bs HB.out)) : w.heap.size ≤ gb128)); have n3_ := n2_; clear HB; have HB := n0_; have BK128 := n1_; have GW128 := n2_; have GE128 := n3_; clear n0_ n1_ n2_ n3_; clear hb hbox hg) | ((with_reducible refine gate_dst (N := 3) rfl ?_); refine box_event ?hg (N := 3) ?hd (cs := #[.slice A1_0 l1_0.length c1_0, .slice A1_1 l1_1.length c1_1]) (t := 28) ?hr ?_; (case hd => rfl); (case hg => rfl); (case hr => first | (go_simp; done) | (go_simp; rfl)); intro gb129 hg w79 hbox hb; have n0_ := Aside0.mk (blk_below (bg BK128.out) hb); have n1_ := Aside0.mk (below_step (bs HB.out) hb); have n2_ := Aside0.mk (hbox); have n3_ := Aside0.mk ((by rw [hg]; exact (below_size (bs HB.out)) : w.heap.size ≤ gb129)); have n4_ := n3_; have n5_ := Aside0.mk ((by rw [hg]; exact Nat.ne_of_lt (blk_lt (bg BK128.out)) : gb128 ≠ gb129)); have n6_ := Aside0.mk ((by rw [hg]; exact Nat.ne_of_gt (blk_lt (bg BK128.out)) : gb129 ≠ gb128)); clear BK128; clear HB; have BK128 := n0_; have HB := n1_; have BK129 := n2_; have GW129 := n3_; have GE129 := n4_; have NB128_129 := n5_; have NB129_128 := n6_; clear n0_ n1_ n2_ n3_ n4_ n5_ n6_; clear hb hbox hg) | ((with_reducible refine gate_dst (N := 4) rfl ?_); refine box_event ?hg (N := 4) ?hd (cs := #[.slice none 0 0]) (t := 31) ?hr ?_; (case hd => rfl); (case hg => rfl); (case hr => first | (go_simp; done) | (go_simp; rfl)); intro gb130 hg w80 hbox hb; have n0_ := Aside0.mk (blk_below (bg BK128.out) hb); have n1_ := Aside0.mk (blk_below (bg BK129.out) hb); have n2_ := Aside0.mk (below_step (bs HB.out) hb); have n3_ := Aside0.mk (hbox); have n4_ := Aside0.mk ((by rw [hg]; exact (below_size (bs HB.out)) : w.heap.size ≤ gb130)); have n5_ := n4_; have n6_ := Aside0.mk ((by rw [hg]; exact Nat.ne_of_lt (blk_lt (bg BK128.out)) : gb128 ≠ gb130)); have n7_ := Aside0.mk ((by rw [hg]; exact Nat.ne_of_gt (blk_lt (bg BK128.out)) : gb130 ≠ gb128)); have n8_ := Aside0.mk ((by rw [hg]; exact Nat.ne_of_lt (blk_lt (bg BK129.out)) : gb129 ≠ gb130)); have n9_ := Aside0.mk ((by rw [hg]; exact Nat.ne_of_gt (blk_lt (bg BK129.out)) : gb130 ≠ gb129)); clear BK128; clear BK129; clear HB; have BK128 := n0_; have BK129 := n1_; have HB := n2_; have BK130 := n3_; have GW130 := n4_; have GE130 := n5_; have NB128_130 := n6_; have NB130_128 := n7_; have NB129_130 := n8_; have NB130_129 := n9_; clear n0_ n1_ n2_ n3_ n4_ n5_ n6_ n7_ n8_ n9_; clear hb hbox hg; have hnb81 := NB128_129.out; have hnc81 := NB129_128.out; have hnb82 := NB128_130.out; have hnc82 := NB130_128.out; obtain ⟨hcz83_0, hcz83_1⟩ := bc2 BK128.out; obtain ⟨hfz83_0, hfz83_1⟩ := bf2 BK128.out; have hnb84 := NB129_130.out; have hnc84 := NB130_129.out; obtain ⟨hcz85_0, hcz85_1⟩ := bc2 BK129.out; obtain ⟨hfz85_0, hfz85_1⟩ := bf2 BK129.out) | ((with_reducible refine gate_callee (f := 25) rfl ?_); refine goesL_ (some 13) rfl rfl Try.func25 (by kernel_rfl) rfl #[.agg #[.string a0_0, .slice A0_1 l0_1.length c0_1], .agg #[.slice A1_0 l1_0.length c1_0, .slice A1_1 l1_1.length c1_1]] rfl (by (try simp only [List.map_toArray, List.map_cons, List.map_nil]); first | done | rfl | (simp only [List.length_drop, List.length_take]; rfl)) ?_; (with_reducible refine (trig_Check.calls k a0_0 _ _ l0_1 _ _ l1_0 _ _ l1_1 t131 _ ?side1 ?side2 ?side3 ?side4 ?side5 ?side6 A3.out).mono ?_); (case side1 => repeat (first | exact (Kd.C_below HR0_1.out HB.out) | (with_reducible refine Kd.C_alloc ?_ _) | (with_reducible refine Kd.C_drewN ?_ _) | (with_reducible refine Kd.C_drew ?_))); (case side2 => exact HC0_1.out); (case side3 => repeat (first | exact (Kd.C_below HR1_0.out HB.out) | (with_reducible refine Kd.C_alloc ?_ _) | (with_reducible refine Kd.C_drewN ?_ _) | (with_reducible refine Kd.C_drew ?_))); (case side4 => exact HC1_0.out); (case side5 => repeat (first | exact (Kd.C_below HR1_1.out HB.out) | (with_reducible refine Kd.C_alloc ?_ _) | (with_reducible refine Kd.C_drewN ?_ _) | (with_reducible refine Kd.C_drew ?_))); (case side6 => exact HC1_1.out); rintro e w86 ⟨rfl, hb⟩; refine ⟨_, rfl, ?_⟩; have n0_ := Aside0.mk (blk_below (bg BK128.out) hb); have n1_ := Aside0.mk (blk_below (bg BK129.out) hb); have n2_ := Aside0.mk (blk_below (bg BK130.out) hb); have n3_ := Aside0.mk (below_step (bs HB.out) hb); clear BK128; clear BK129; clear BK130; clear HB; have BK128 := n0_; have BK129 := n1_; have BK130 := n2_; have HB := n3_; clear n0_ n1_ n2_ n3_; (try clear hb); (try clear hb2); (try clear hk); (try clear hi); have hcz87_0 : w86.cell? ⟨gb130, 0, none⟩ = some (.slice none 0 0) := (blk_cell BK130.out 0).trans rfl; have hfz87_0 := blk_frozen BK130.out 0))
  refine bodyPost_ret (results_ct rfl _ _ gb130 31 #[.slice none 0 0] (0, 0) _ rfl (by (with_reducible repeat (first | refine blk_drewN ?_ _ | refine blk_drew ?_ | refine blk_alloc ?_ _)); refine blk_put (cs := #[.slice none 0 0]) ?_ 0 _ rfl; exact bg BK130.out) Try.underlying31 rfl (by kernel_rfl)) rfl ?_
  exact ⟨_, by first | rfl | (simp [errW_none, errW_some] <;> rfl) | (simp [*, errW_none, errW_some] <;> rfl), by first | exact Kd.R_nil _ _ _ _ _ | exact Kd.N_nil _ _ _ _ _ | exact Kd.V_nil _ _ _ _ _ | exact Kd.Q_nil _ _ _ _ _ | exact Kd.S_nil _ _ _ _ _, bs HB.out⟩

end Go.Proofs.Ytgdjiphljadlcaa.H
