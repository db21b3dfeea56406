-- Printed by wip/hprint.py (this project's own driver of the kit's print) out of the translation; Lean checks it.
import Derived.Test.YtgdjiphljadlcaaH0
import Derived.Test.YtgdjiphljadlcaaH18
import Derived.Test.YtgdjiphljadlcaaH20
namespace Go.Proofs.Ytgdjiphljadlcaa.H
open Go.RowKit Go.Proofs.YtgdjiphljadlcaaW.PrintWords Go.Proofs.YtgdjiphljadlcaaW.PrintLast Go.Proofs.YtgdjiphljadlcaaW.PrintMore
attribute [local go_sem] max2_int min2_int max_two min_two max_three min_three max_four min_four   -- for this text's walks alone
set_option linter.unusedVariables false
set_option linter.unusedSimpArgs false

/-! ### signalbenchref44_Compile: function 17 -/
mutual
def signalbenchref44_Compile.l0 : Nat → List (S50) → Int → ByteArray → List (S64) → List (S139) → List (S100) → Option ((List (S50)) × Int)
 | 0, _, _, _, _, _, _ => none
 | k + 1, x7, x8, x181000, x181001, x182000, x182001 => if x8 < (x181001.length : Int) then (if 0 ≤ x8 then ((signalbenchref44_compiled.f k ((rd_T64 x181001 x8).f0.f0) ((rd_T64 x181001 x8).f0.f1) ((rd_T64 x181001 x8).f0.f2) ((rd_T64 x181001 x8).f0.f3) ((rd_T64 x181001 x8).f0.f4) x182000 x182001).bind fun bt189 => (if (rd_T64 x181001 x8).f3 = true then ((signalbenchref44_compiled.f k ((rd_T64 x181001 x8).f4.f0) ((rd_T64 x181001 x8).f4.f1) ((rd_T64 x181001 x8).f4.f2) ((rd_T64 x181001 x8).f4.f3) ((rd_T64 x181001 x8).f4.f4) x182000 x182001).bind fun bt195 => (signalbenchref44_Compile.j1 k x7 x8 x181000 x181001 x182000 x182001 ((rd_T64 x181001 x8).f0.f0) ((rd_T64 x181001 x8).f0.f1) ((rd_T64 x181001 x8).f0.f2) ((rd_T64 x181001 x8).f0.f3) ((rd_T64 x181001 x8).f0.f4) ((rd_T64 x181001 x8).f1) ((rd_T64 x181001 x8).f2) ((rd_T64 x181001 x8).f3) ((rd_T64 x181001 x8).f4.f0) ((rd_T64 x181001 x8).f4.f1) ((rd_T64 x181001 x8).f4.f2) ((rd_T64 x181001 x8).f4.f3) ((rd_T64 x181001 x8).f4.f4) bt189.1 bt189.2.1 bt189.2.2.1 bt189.2.2.2.1 bt189.2.2.2.2 ((rd_T64 x181001 x8).f2) ((rd_T64 x181001 x8).f3) bt195.1 bt195.2.1 bt195.2.2.1 bt195.2.2.2.1 bt195.2.2.2.2)) else (signalbenchref44_Compile.j1 k x7 x8 x181000 x181001 x182000 x182001 ((rd_T64 x181001 x8).f0.f0) ((rd_T64 x181001 x8).f0.f1) ((rd_T64 x181001 x8).f0.f2) ((rd_T64 x181001 x8).f0.f3) ((rd_T64 x181001 x8).f0.f4) ((rd_T64 x181001 x8).f1) ((rd_T64 x181001 x8).f2) ((rd_T64 x181001 x8).f3) ((rd_T64 x181001 x8).f4.f0) ((rd_T64 x181001 x8).f4.f1) ((rd_T64 x181001 x8).f4.f2) ((rd_T64 x181001 x8).f4.f3) ((rd_T64 x181001 x8).f4.f4) bt189.1 bt189.2.1 bt189.2.2.1 bt189.2.2.2.1 bt189.2.2.2.2 ((rd_T64 x181001 x8).f2) ((rd_T64 x181001 x8).f3) 0 0 0 0 0))) else (none)) else (some (x7, 0))
def signalbenchref44_Compile.j1 : Nat → List (S50) → Int → ByteArray → List (S64) → List (S139) → List (S100) → ByteArray → Int → Int → Int → Int → Int → Int → Bool → ByteArray → Int → Int → Int → Int → Int → Int → Int → Int → Int → Int → Bool → Int → Int → Int → Int → Int → Option ((List (S50)) × Int)
 | 0, _, _, _, _, _, _, _, _, _, _, _, _, _, _, _, _, _, _, _, _, _, _, _, _, _, _, _, _, _, _, _ => none
 | k + 1, x7, x8, x181000, x181001, x182000, x182001, x189000, x189001, x189002, x189003, x189004, x189005, x189006, x189007, x189008, x189009, x189010, x189011, x189012, x195000, x195001, x195002, x195003, x195004, x195005, x195006, x195007, x195008, x195009, x195010, x195011 => signalbenchref44_Compile.l1 k x7 x8 0 x181000 x181001 x182000 x182001 x189000 x189001 x189002 x189003 x189004 x189005 x189006 x189007 x189008 x189009 x189010 x189011 x189012 x195000 x195001 x195002 x195003 x195004 x195005 x195006 x195007 x195008 x195009 x195010 x195011
def signalbenchref44_Compile.l1 : Nat → List (S50) → Int → Int → ByteArray → List (S64) → List (S139) → List (S100) → ByteArray → Int → Int → Int → Int → Int → Int → Bool → ByteArray → Int → Int → Int → Int → Int → Int → Int → Int → Int → Int → Bool → Int → Int → Int → Int → Int → Option ((List (S50)) × Int)
 | 0, _, _, _, _, _, _, _, _, _, _, _, _, _, _, _, _, _, _, _, _, _, _, _, _, _, _, _, _, _, _, _, _ => none
 | k + 1, x7, x8, x11, x181000, x181001, x182000, x182001, x189000, x189001, x189002, x189003, x189004, x189005, x189006, x189007, x189008, x189009, x189010, x189011, x189012, x195000, x195001, x195002, x195003, x195004, x195005, x195006, x195007, x195008, x195009, x195010, x195011 => if x11 < x189005 then (if (x7.length : Int) = 0 then (if x7.length < 1466015503701 then (signalbenchref44_Compile.l1 k (x7 ++ [(⟨(⟨x195000, x195001, x195002, x195003, x195004⟩ : S42), 0, false, (⟨0, 0, 0, 0, 0⟩ : S42)⟩ : S50)]) x8 (wrap64 (x11 + 1)) x181000 x181001 x182000 x182001 x189000 x189001 x189002 x189003 x189004 x189005 x189006 x189007 x189008 x189009 x189010 x189011 x189012 x195000 x195001 x195002 x195003 x195004 x195005 x195006 x195007 x195008 x195009 x195010 x195011) else (none)) else (if x7.length < 1466015503701 then (signalbenchref44_Compile.l1 k (x7 ++ [(⟨(⟨x195000, x195001, x195002, x195003, x195004⟩ : S42), x195005, x195006, (⟨x195007, x195008, x195009, x195010, x195011⟩ : S42)⟩ : S50)]) x8 (wrap64 (x11 + 1)) x181000 x181001 x182000 x182001 x189000 x189001 x189002 x189003 x189004 x189005 x189006 x189007 x189008 x189009 x189010 x189011 x189012 x195000 x195001 x195002 x195003 x195004 x195005 x195006 x195007 x195008 x195009 x195010 x195011) else (none))) else (signalbenchref44_Compile.l0 k x7 (wrap64 (x8 + 1)) x181000 x181001 x182000 x182001)
end
def signalbenchref44_Compile.f (k : Nat) (a0_0 : ByteArray) (l0_1 : List (S64)) (l1_0 : List (S139)) (l1_1 : List (S100)) : Option ((List (S50)) × Int) := (signalbenchref43_Check.f k a0_0 l0_1 l1_0 l1_1).bind fun t183 => (if t183 = 0 then (signalbenchref44_Compile.l0 k (([] : List (S50))) 0 a0_0 l0_1 l1_0 l1_1) else (some (([] : List (S50)), t183)))
def signalbenchref44_Compile.T9 : Bool × List (List Nat × List Nat) := (true, [([], []), ([0], [0]), ([], []), ([1, 2], [1, 2]), ([], []), ([4], [4]), ([], []), ([6], [6]), ([3, 5, 7], [3, 5, 7]), ([], []), ([9, 8, 3, 0, 1, 2, 3, 4, 5, 6, 7, 8, 9], [8, 9])])
def signalbenchref44_Compile.B9 : List Nat := [0, 1, 0, 7, 0, 16, 0, 64, 255, 0, 1023]
theorem signalbenchref44_Compile.tab9 : rtab .any (opsOf Try.f17 9) = signalbenchref44_Compile.T9 := by kernel_rfl
theorem signalbenchref44_Compile.bits9 : waitsOk signalbenchref44_Compile.T9.2 signalbenchref44_Compile.B9 = true := by kernel_rfl
set_option maxHeartbeats 8000000 in
set_option maxRecDepth 100000 in
theorem signalbenchref44_Compile.calls (k : Nat) (a0_0 : ByteArray) (A0_1 : Option Addr) (c0_1 : Nat) (l0_1 : List (S64)) (A1_0 : Option Addr) (c1_0 : Nat) (l1_0 : List (S139)) (A1_1 : Option Addr) (c1_1 : Nat) (l1_1 : List (S100)) (r1 : List (S50)) (r2 : Int) (w : World) (hr0_1 : Kd.C k64 w A0_1 l0_1.length l0_1) (hc0_1 : l0_1.length ≤ c0_1) (hr1_0 : Kd.C k139 w A1_0 l1_0.length l1_0) (hc1_0 : l1_0.length ≤ c1_0) (hr1_1 : Kd.C k100 w A1_1 l1_1.length l1_1) (hc1_1 : l1_1.length ≤ c1_1) (h : signalbenchref44_Compile.f k a0_0 l0_1 l1_0 l1_1 = some (r1, r2)) :
  Calls Try.prog 17 #[.agg #[.string a0_0, .slice A0_1 l0_1.length c0_1], .agg #[.slice A1_0 l1_0.length c1_0, .slice A1_1 l1_1.length c1_1]] w fun e w' => ∃ v0_ : Value, e = .returned (.tuple #[.agg #[v0_], .int .i64 r2]) ∧ Kd.R k50 50 w' w.heap.size (fun _ => True) v0_ r1 ∧ Below w.heap.size w w' := by
 have hu24 := Try.underlying24
 have hu28 := Try.underlying28
 have hu31 := Try.underlying31
 have hu64 := Try.underlying64
 have hu62 := Try.underlying62
 have hu50 := Try.underlying50
 have hu42 := Try.underlying42
 have HR0_1 := Aside0.mk hr0_1
 have HC0_1 := Aside0.mk hc0_1
 clear hr0_1 hc0_1
 have HR1_0 := Aside0.mk hr1_0
 have HC1_0 := Aside0.mk hc1_0
 clear hr1_0 hc1_0
 have HR1_1 := Aside0.mk hr1_1
 have HC1_1 := Aside0.mk hc1_1
 clear hr1_1 hc1_1
 have HB := Aside0.mk (Below.refl w.heap.size w)
 have H : ((signalbenchref43_Check.f k a0_0 l0_1 l1_0 l1_1).bind fun t183 => (if t183 = 0 then (signalbenchref44_Compile.l0 k (([] : List (S50))) 0 a0_0 l0_1 l1_0 l1_1) else (some (([] : List (S50)), t183)))) = some (r1, r2) := h
 clear h
 replace H := Option.bind_eq_some_iff.mp H
 obtain ⟨t183, A30, H⟩ := H
 replace H : (if t183 = 0 then (signalbenchref44_Compile.l0 k (([] : List (S50))) 0 a0_0 l0_1 l1_0 l1_1) else (some (([] : List (S50)), t183))) = some (r1, r2) := H
 have A3 := Aside0.mk A30
 clear A30
 by_cases c4 : t183 = 0
 ·
  rw [if_pos c4] at H
  have c4b0 : (t183 == 0) = true := beq_iff_eq.mpr c4
  have c4b1 : (t183 != 0) = false := bne_eq_false_iff_eq.mpr c4
  clear c4
  obtain ⟨y184, hy184⟩ : ∃ y_ : List (S50), y_ = (([] : List (S50))) := ⟨_, rfl⟩
  replace H : (signalbenchref44_Compile.l0 k y184 0 a0_0 l0_1 l1_0 l1_1) = some (r1, r2) := by first | (rw [hy184]; with_reducible exact H) | (have H2_ := (Option.bind_some _ _).symm.trans H; rw [hy184]; with_reducible exact H2_) | (have H2_ := (Option.bind_some _ _).symm.trans H; with_reducible exact H2_) | with_reducible exact H | (rw [hy184]; exact H) | exact H
  have Ny184 := Aside0.mk hy184
  clear hy184
  have H' := Aside0.mk H
  clear H
  go_enter Try.func17, Try.ntmps17
  go_wp2_with (first | ((with_reducible refine gate_dst (N := 2) rfl ?_); refine box_event ?hg (N := 2) ?hd (cs := #[.string a0_0, .slice A0_1 l0_1.length c0_1]) (t := 24) ?hr ?_; (case hd => rfl); (case hg => rfl); (case hr => first | (go_simp; done) | (go_simp; rfl)); intro gb180 hg w5 hbox hb; have n0_ := Aside0.mk (below_step (bs HB.out) hb); have n1_ := Aside0.mk (hbox); have n2_ := Aside0.mk ((by rw [hg]; exact (below_size (bs HB.out)) : w.heap.size ≤ gb180)); have n3_ := n2_; clear HB; have HB := n0_; have BK180 := n1_; have GW180 := n2_; have GE180 := n3_; clear n0_ n1_ n2_ n3_; clear hb hbox hg) | ((with_reducible refine gate_dst (N := 3) rfl ?_); refine box_event ?hg (N := 3) ?hd (cs := #[.slice A1_0 l1_0.length c1_0, .slice A1_1 l1_1.length c1_1]) (t := 28) ?hr ?_; (case hd => rfl); (case hg => rfl); (case hr => first | (go_simp; done) | (go_simp; rfl)); intro gb181 hg w6 hbox hb; have n0_ := Aside0.mk (blk_below (bg BK180.out) hb); have n1_ := Aside0.mk (below_step (bs HB.out) hb); have n2_ := Aside0.mk (hbox); have n3_ := Aside0.mk ((by rw [hg]; exact (below_size (bs HB.out)) : w.heap.size ≤ gb181)); have n4_ := n3_; have n5_ := Aside0.mk ((by rw [hg]; exact Nat.ne_of_lt (blk_lt (bg BK180.out)) : gb180 ≠ gb181)); have n6_ := Aside0.mk ((by rw [hg]; exact Nat.ne_of_gt (blk_lt (bg BK180.out)) : gb181 ≠ gb180)); clear BK180; clear HB; have BK180 := n0_; have HB := n1_; have BK181 := n2_; have GW181 := n3_; have GE181 := n4_; have NB180_181 := n5_; have NB181_180 := n6_; clear n0_ n1_ n2_ n3_ n4_ n5_ n6_; clear hb hbox hg) | ((with_reducible refine gate_dst (N := 4) rfl ?_); refine box_event ?hg (N := 4) ?hd (cs := #[.slice none 0 0]) (t := 31) ?hr ?_; (case hd => rfl); (case hg => rfl); (case hr => first | (go_simp; done) | (go_simp; rfl)); intro gb182 hg w7 hbox hb; have n0_ := Aside0.mk (blk_below (bg BK180.out) hb); have n1_ := Aside0.mk (blk_below (bg BK181.out) hb); have n2_ := Aside0.mk (below_step (bs HB.out) hb); have n3_ := Aside0.mk (hbox); have n4_ := Aside0.mk ((by rw [hg]; exact (below_size (bs HB.out)) : w.heap.size ≤ gb182)); have n5_ := n4_; have n6_ := Aside0.mk ((by rw [hg]; exact Nat.ne_of_lt (blk_lt (bg BK180.out)) : gb180 ≠ gb182)); have n7_ := Aside0.mk ((by rw [hg]; exact Nat.ne_of_gt (blk_lt (bg BK180.out)) : gb182 ≠ gb180)); have n8_ := Aside0.mk ((by rw [hg]; exact Nat.ne_of_lt (blk_lt (bg BK181.out)) : gb181 ≠ gb182)); have n9_ := Aside0.mk ((by rw [hg]; exact Nat.ne_of_gt (blk_lt (bg BK181.out)) : gb182 ≠ gb181)); clear BK180; clear BK181; clear HB; have BK180 := n0_; have BK181 := n1_; have HB := n2_; have BK182 := n3_; have GW182 := n4_; have GE182 := n5_; have NB180_182 := n6_; have NB182_180 := n7_; have NB181_182 := n8_; have NB182_181 := n9_; clear n0_ n1_ n2_ n3_ n4_ n5_ n6_ n7_ n8_ n9_; clear hb hbox hg; have hnb8 := NB180_181.out; have hnc8 := NB181_180.out; have hnb9 := NB180_182.out; have hnc9 := NB182_180.out; obtain ⟨hcz10_0, hcz10_1⟩ := bc2 BK180.out; obtain ⟨hfz10_0, hfz10_1⟩ := bf2 BK180.out; have hnb11 := NB181_182.out; have hnc11 := NB182_181.out; obtain ⟨hcz12_0, hcz12_1⟩ := bc2 BK181.out; obtain ⟨hfz12_0, hfz12_1⟩ := bf2 BK181.out) | ((with_reducible refine gate_callee (f := 40) rfl ?_); refine goesL_ (some 14) rfl rfl Try.func40 (by kernel_rfl) rfl #[.agg #[.string a0_0, .slice A0_1 l0_1.length c0_1], .agg #[.slice A1_0 l1_0.length c1_0, .slice A1_1 l1_1.length c1_1]] rfl (by (try simp only [List.map_toArray, List.map_cons, List.map_nil]); first | done | rfl | (simp only [List.length_drop, List.length_take]; rfl)) ?_; (with_reducible refine (signalbenchref43_Check.calls k a0_0 _ _ l0_1 _ _ l1_0 _ _ l1_1 t183 _ ?side1 ?side2 ?side3 ?side4 ?side5 ?side6 A3.out).mono ?_); (case side1 => repeat (first | exact (Kd.C_below HR0_1.out HB.out) | (with_reducible refine Kd.C_alloc ?_ _) | (with_reducible refine Kd.C_drewN ?_ _) | (with_reducible refine Kd.C_drew ?_))); (case side2 => exact HC0_1.out); (case side3 => repeat (first | exact (Kd.C_below HR1_0.out HB.out) | (with_reducible refine Kd.C_alloc ?_ _) | (with_reducible refine Kd.C_drewN ?_ _) | (with_reducible refine Kd.C_drew ?_))); (case side4 => exact HC1_0.out); (case side5 => repeat (first | exact (Kd.C_below HR1_1.out HB.out) | (with_reducible refine Kd.C_alloc ?_ _) | (with_reducible refine Kd.C_drewN ?_ _) | (with_reducible refine Kd.C_drew ?_))); (case side6 => exact HC1_1.out); rintro e w13 ⟨rfl, hb⟩; refine ⟨_, rfl, ?_⟩; have n0_ := Aside0.mk (blk_below (bg BK180.out) hb); have n1_ := Aside0.mk (blk_below (bg BK181.out) hb); have n2_ := Aside0.mk (blk_below (bg BK182.out) hb); have n3_ := Aside0.mk (below_step (bs HB.out) hb); clear BK180; clear BK181; clear BK182; clear HB; have BK180 := n0_; have BK181 := n1_; have BK182 := n2_; have HB := n3_; clear n0_ n1_ n2_ n3_; (try clear hb); (try clear hb2); (try clear hk); (try clear hi)) | ((with_reducible refine gate_dst (N := 19) rfl ?_); refine Kd.R_lit k50 _ 50 ?hg (N := 19) ?hd (xs := ([] : List (S50))) (inner := []) (ok := fun _ => True) (okp := fun _ => True) ?hr ?hp (fun _ hk => hk) trivial (Below.refl _ _) (Nat.le_refl _) (by simp) ?_; (case hd => rfl); (case hg => rfl); (case hr => first | (go_simp; done) | (go_simp; rfl)); (case hp => exact (Reps.none _ _)); intro v185 w14 ho15 hb hg_ hnew_; clear hg_ hnew_; (first | rw [← Ny184.out] at ho15 | (simp only [Int.reduceToNat] at ho15; rw [← Ny184.out] at ho15)); have n0_ := Aside0.mk (Kd.R_lower ho15 (below_size (bs HB.out))); have n1_ := Aside0.mk (blk_below (bg BK180.out) hb); have n2_ := Aside0.mk (blk_below (bg BK181.out) hb); have n3_ := Aside0.mk (blk_below (bg BK182.out) hb); have n4_ := Aside0.mk (below_step (bs HB.out) hb); clear BK180; clear BK181; clear BK182; clear HB; have HO186 := n0_; have BK180 := n1_; have BK181 := n2_; have BK182 := n3_; have HB := n4_; clear n0_ n1_ n2_ n3_ n4_; clear hb ho15))
  go_loopg [7, 8] k (fun kq v7 v8 w' => ∃ (x7_1 : List (S50)) (x8_1 : Int), v8 = .int .i64 x8_1 ∧ Aside0 (signalbenchref44_Compile.l0 kq x7_1 x8_1 a0_0 l0_1 l1_0 l1_1 = some (r1, r2)) ∧ Aside0 (kq ≤ k) ∧ Aside0 (Kd.R k50 50 w' w.heap.size (fun _ => True) v7 x7_1) ∧ Aside0 (w'.heap[gb180]? = some (.cells #[.string a0_0, (.slice A0_1 l0_1.length c0_1)] 24 (0, 0))) ∧ Aside0 (w'.heap[gb181]? = some (.cells #[(.slice A1_0 l1_0.length c1_0), (.slice A1_1 l1_1.length c1_1)] 28 (0, 0))) ∧ Aside0 (w'.heap[gb182]? = some (.cells #[(.slice none 0 0)] 31 (0, 0))) ∧ Aside0 (Below w.heap.size w w'))
  case atStart => exact ⟨(y184), (0), (by first | rfl | (simp; done) | (simp [*]; done)), H', ⟨Nat.le_refl _⟩, ⟨by (with_reducible repeat (first | apply Kd.R_alloc | apply Kd.R_drewN | apply Kd.R_drew)); exact HO186.out⟩, ⟨bg BK180.out⟩, ⟨bg BK181.out⟩, ⟨bg BK182.out⟩, ⟨bs HB.out⟩⟩
  case round =>
   clear H'
   try clear c1
   try clear p2
   try clear c4
   try clear c4b0
   try clear c4b1
   try clear c8
   try clear c9
   try clear c11
   try clear hcz10_0 hcz10_1
   try clear hcz12_0 hcz12_1
   try clear hfz10_0 hfz10_1
   try clear hfz12_0 hfz12_1
   obtain ⟨x7_1, x8_1, rfl, HA, HK1, HO_7, BK180, BK181, BK182, HB⟩ := hrel
   cases gk with
   | zero => exact absurd HA.out (by simp [signalbenchref44_Compile.l0])
   | succ k1 =>
    have H := HA.out
    clear HA
    simp only [signalbenchref44_Compile.l0] at H
    by_cases c16 : x8_1 < (l0_1.length : Int)
    ·
     rw [if_pos c16] at H
     have c16b0 : decide (x8_1 < (l0_1.length : Int)) = true := decide_eq_true c16
     clear c16
     by_cases c17 : 0 ≤ x8_1
     ·
      rw [if_pos c17] at H
      have c17b0 : decide (0 ≤ x8_1) = true := decide_eq_true c17
      clear c17
      replace H := Option.bind_eq_some_iff.mp H
      obtain ⟨⟨t189, t190, t191, t192, t193⟩, A180, H⟩ := H
      replace H : (if (rd_T64 l0_1 x8_1).f3 = true then ((signalbenchref44_compiled.f k1 ((rd_T64 l0_1 x8_1).f4.f0) ((rd_T64 l0_1 x8_1).f4.f1) ((rd_T64 l0_1 x8_1).f4.f2) ((rd_T64 l0_1 x8_1).f4.f3) ((rd_T64 l0_1 x8_1).f4.f4) l1_0 l1_1).bind fun bt195 => (signalbenchref44_Compile.j1 k1 x7_1 x8_1 a0_0 l0_1 l1_0 l1_1 ((rd_T64 l0_1 x8_1).f0.f0) ((rd_T64 l0_1 x8_1).f0.f1) ((rd_T64 l0_1 x8_1).f0.f2) ((rd_T64 l0_1 x8_1).f0.f3) ((rd_T64 l0_1 x8_1).f0.f4) ((rd_T64 l0_1 x8_1).f1) ((rd_T64 l0_1 x8_1).f2) ((rd_T64 l0_1 x8_1).f3) ((rd_T64 l0_1 x8_1).f4.f0) ((rd_T64 l0_1 x8_1).f4.f1) ((rd_T64 l0_1 x8_1).f4.f2) ((rd_T64 l0_1 x8_1).f4.f3) ((rd_T64 l0_1 x8_1).f4.f4) t189 t190 t191 t192 t193 ((rd_T64 l0_1 x8_1).f2) ((rd_T64 l0_1 x8_1).f3) bt195.1 bt195.2.1 bt195.2.2.1 bt195.2.2.2.1 bt195.2.2.2.2)) else (signalbenchref44_Compile.j1 k1 x7_1 x8_1 a0_0 l0_1 l1_0 l1_1 ((rd_T64 l0_1 x8_1).f0.f0) ((rd_T64 l0_1 x8_1).f0.f1) ((rd_T64 l0_1 x8_1).f0.f2) ((rd_T64 l0_1 x8_1).f0.f3) ((rd_T64 l0_1 x8_1).f0.f4) ((rd_T64 l0_1 x8_1).f1) ((rd_T64 l0_1 x8_1).f2) ((rd_T64 l0_1 x8_1).f3) ((rd_T64 l0_1 x8_1).f4.f0) ((rd_T64 l0_1 x8_1).f4.f1) ((rd_T64 l0_1 x8_1).f4.f2) ((rd_T64 l0_1 x8_1).f4.f3) ((rd_T64 l0_1 x8_1).f4.f4) t189 t190 t191 t192 t193 ((rd_T64 l0_1 x8_1).f2) ((rd_T64 l0_1 x8_1).f3) 0 0 0 0 0)) = some (r1, r2) := H
      have A18 := Aside0.mk A180
      clear A180
      have HC19 := Aside0.mk H
      clear H
      have hnb20 := NB180_181.out
      have hnc20 := NB181_180.out
      have hnb21 := NB180_182.out
      have hnc21 := NB182_180.out
      obtain ⟨hcz22_0, hcz22_1⟩ := bc2 BK180.out
      obtain ⟨hfz22_0, hfz22_1⟩ := bf2 BK180.out
      have p187 : 0 ≤ (x8_1 : Int) := of_decide_eq_true (by first | (with_reducible assumption) | assumption)
      have q187 : x8_1 < (l0_1.length : Int) := of_decide_eq_true (by first | (with_reducible assumption) | assumption)
      obtain ⟨ad187, e187, hx187_0, hx187_1, hx187_2, hx187_3, hx187_4, hx187_5, hx187_6, hx187_7, hx187_8, hx187_9, hx187_10, hx187_11, hx187_12⟩ := at_T64 HR0_1.out x8_1 p187 q187
      cases e187
      replace hx187_0 := pw_cell_below HB.out hx187_0
      replace hx187_1 := pw_cell_below HB.out hx187_1
      replace hx187_2 := pw_cell_below HB.out hx187_2
      replace hx187_3 := pw_cell_below HB.out hx187_3
      replace hx187_4 := pw_cell_below HB.out hx187_4
      replace hx187_5 := pw_cell_below HB.out hx187_5
      replace hx187_6 := pw_cell_below HB.out hx187_6
      replace hx187_7 := pw_cell_below HB.out hx187_7
      replace hx187_8 := pw_cell_below HB.out hx187_8
      replace hx187_9 := pw_cell_below HB.out hx187_9
      replace hx187_10 := pw_cell_below HB.out hx187_10
      replace hx187_11 := pw_cell_below HB.out hx187_11
      replace hx187_12 := pw_cell_below HB.out hx187_12
      replace p187 := eq_true p187
      replace q187 := eq_true q187
      try go_wp2_with (first | ((with_reducible refine gate_dst (N := 9) rfl ?_); refine box_event ?hg (N := 9) ?hd (cs := #[.string (⟨#[]⟩ : ByteArray), .int .i64 0, .int .i64 0, .int .i64 0, .int .i64 0, .int .i64 0, .int .i64 0, .bool false, .string (⟨#[]⟩ : ByteArray), .int .i64 0, .int .i64 0, .int .i64 0, .int .i64 0]) (t := 64) ?hr ?_; (case hd => rfl); (case hg => rfl); (case hr => first | (go_simp; done) | (go_simp; rfl)); intro gb188 hg w23 hbox hb; have n0_ := Aside0.mk (Kd.R_below (by (with_reducible repeat (first | apply Kd.R_alloc | apply Kd.R_drewN | apply Kd.R_drew)); exact HO_7.out) hb); have n1_ := Aside0.mk (blk_below (bg BK180.out) hb); have n2_ := Aside0.mk (blk_below (bg BK181.out) hb); have n3_ := Aside0.mk (blk_below (bg BK182.out) hb); have n4_ := Aside0.mk (below_step (bs HB.out) hb); have n5_ := Aside0.mk (hbox); have n6_ := Aside0.mk ((by rw [hg]; exact (below_size (bs HB.out)) : w.heap.size ≤ gb188)); have n7_ := n6_; have n8_ := Aside0.mk ((by rw [hg]; exact Nat.ne_of_lt (blk_lt (bg BK180.out)) : gb180 ≠ gb188)); have n9_ := Aside0.mk ((by rw [hg]; exact Nat.ne_of_gt (blk_lt (bg BK180.out)) : gb188 ≠ gb180)); have n10_ := Aside0.mk ((by rw [hg]; exact Nat.ne_of_lt (blk_lt (bg BK181.out)) : gb181 ≠ gb188)); have n11_ := Aside0.mk ((by rw [hg]; exact Nat.ne_of_gt (blk_lt (bg BK181.out)) : gb188 ≠ gb181)); have n12_ := Aside0.mk ((by rw [hg]; exact Nat.ne_of_lt (blk_lt (bg BK182.out)) : gb182 ≠ gb188)); have n13_ := Aside0.mk ((by rw [hg]; exact Nat.ne_of_gt (blk_lt (bg BK182.out)) : gb188 ≠ gb182)); clear HO_7; clear BK180; clear BK181; clear BK182; clear HB; have HO_7 := n0_; have BK180 := n1_; have BK181 := n2_; have BK182 := n3_; have HB := n4_; have BK188 := n5_; have GW188 := n6_; have GE188 := n7_; have NB180_188 := n8_; have NB188_180 := n9_; have NB181_188 := n10_; have NB188_181 := n11_; have NB182_188 := n12_; have NB188_182 := n13_; clear n0_ n1_ n2_ n3_ n4_ n5_ n6_ n7_ n8_ n9_ n10_ n11_ n12_ n13_; clear hb hbox hg; have hnb24 := NB188_180.out; have hnc24 := NB180_188.out; have hnb25 := NB188_181.out; have hnc25 := NB181_188.out; have hnb26 := NB188_182.out; have hnc26 := NB182_188.out; obtain ⟨hcz27_0, hcz27_1, hcz27_2, hcz27_3, hcz27_4, hcz27_5, hcz27_6, hcz27_7, hcz27_8, hcz27_9, hcz27_10, hcz27_11, hcz27_12⟩ := bc13 BK188.out; obtain ⟨hfz27_0, hfz27_1, hfz27_2, hfz27_3, hfz27_4, hfz27_5, hfz27_6, hfz27_7, hfz27_8, hfz27_9, hfz27_10, hfz27_11, hfz27_12⟩ := bf13 BK188.out))
      have n0_ : Aside0 (Kd.R k50 50 (((((((((((((w23.setCell ⟨gb188, 0, none⟩ (.string ((rd_T64 l0_1 x8_1).f0.f0))).setCell ⟨gb188, 1, none⟩ (.int .i64 ((rd_T64 l0_1 x8_1).f0.f1))).setCell ⟨gb188, 2, none⟩ (.int .i64 ((rd_T64 l0_1 x8_1).f0.f2))).setCell ⟨gb188, 3, none⟩ (.int .i64 ((rd_T64 l0_1 x8_1).f0.f3))).setCell ⟨gb188, 4, none⟩ (.int .i64 ((rd_T64 l0_1 x8_1).f0.f4))).setCell ⟨gb188, 5, none⟩ (.int .i64 ((rd_T64 l0_1 x8_1).f1))).setCell ⟨gb188, 6, none⟩ (.int .i64 ((rd_T64 l0_1 x8_1).f2))).setCell ⟨gb188, 7, none⟩ (.bool ((rd_T64 l0_1 x8_1).f3))).setCell ⟨gb188, 8, none⟩ (.string ((rd_T64 l0_1 x8_1).f4.f0))).setCell ⟨gb188, 9, none⟩ (.int .i64 ((rd_T64 l0_1 x8_1).f4.f1))).setCell ⟨gb188, 10, none⟩ (.int .i64 ((rd_T64 l0_1 x8_1).f4.f2))).setCell ⟨gb188, 11, none⟩ (.int .i64 ((rd_T64 l0_1 x8_1).f4.f3))).setCell ⟨gb188, 12, none⟩ (.int .i64 ((rd_T64 l0_1 x8_1).f4.f4))) w.heap.size (fun _ => True) u7 x7_1) := ⟨by (with_reducible repeat (first | apply Kd.R_alloc | apply Kd.R_drewN | apply Kd.R_drew)); exact Kd.R_mono (Kd.R_far (p := ⟨gb188, 12, none⟩) (Kd.R_far (p := ⟨gb188, 11, none⟩) (Kd.R_far (p := ⟨gb188, 10, none⟩) (Kd.R_far (p := ⟨gb188, 9, none⟩) (Kd.R_far (p := ⟨gb188, 8, none⟩) (Kd.R_far (p := ⟨gb188, 7, none⟩) (Kd.R_far (p := ⟨gb188, 6, none⟩) (Kd.R_far (p := ⟨gb188, 5, none⟩) (Kd.R_far (p := ⟨gb188, 4, none⟩) (Kd.R_far (p := ⟨gb188, 3, none⟩) (Kd.R_far (p := ⟨gb188, 2, none⟩) (Kd.R_far (p := ⟨gb188, 1, none⟩) (Kd.R_far (p := ⟨gb188, 0, none⟩) (Kd.R_types HO_7.out BK188.out (by decide)) (fun _ hk => hk.2) (.string ((rd_T64 l0_1 x8_1).f0.f0))) (fun _ hk => hk.2) (.int .i64 ((rd_T64 l0_1 x8_1).f0.f1))) (fun _ hk => hk.2) (.int .i64 ((rd_T64 l0_1 x8_1).f0.f2))) (fun _ hk => hk.2) (.int .i64 ((rd_T64 l0_1 x8_1).f0.f3))) (fun _ hk => hk.2) (.int .i64 ((rd_T64 l0_1 x8_1).f0.f4))) (fun _ hk => hk.2) (.int .i64 ((rd_T64 l0_1 x8_1).f1))) (fun _ hk => hk.2) (.int .i64 ((rd_T64 l0_1 x8_1).f2))) (fun _ hk => hk.2) (.bool ((rd_T64 l0_1 x8_1).f3))) (fun _ hk => hk.2) (.string ((rd_T64 l0_1 x8_1).f4.f0))) (fun _ hk => hk.2) (.int .i64 ((rd_T64 l0_1 x8_1).f4.f1))) (fun _ hk => hk.2) (.int .i64 ((rd_T64 l0_1 x8_1).f4.f2))) (fun _ hk => hk.2) (.int .i64 ((rd_T64 l0_1 x8_1).f4.f3))) (fun _ hk => hk.2) (.int .i64 ((rd_T64 l0_1 x8_1).f4.f4))) (fun _ hk => trivial)⟩
      have n1_ : Aside0 ((((((((((((((w23.setCell ⟨gb188, 0, none⟩ (.string ((rd_T64 l0_1 x8_1).f0.f0))).setCell ⟨gb188, 1, none⟩ (.int .i64 ((rd_T64 l0_1 x8_1).f0.f1))).setCell ⟨gb188, 2, none⟩ (.int .i64 ((rd_T64 l0_1 x8_1).f0.f2))).setCell ⟨gb188, 3, none⟩ (.int .i64 ((rd_T64 l0_1 x8_1).f0.f3))).setCell ⟨gb188, 4, none⟩ (.int .i64 ((rd_T64 l0_1 x8_1).f0.f4))).setCell ⟨gb188, 5, none⟩ (.int .i64 ((rd_T64 l0_1 x8_1).f1))).setCell ⟨gb188, 6, none⟩ (.int .i64 ((rd_T64 l0_1 x8_1).f2))).setCell ⟨gb188, 7, none⟩ (.bool ((rd_T64 l0_1 x8_1).f3))).setCell ⟨gb188, 8, none⟩ (.string ((rd_T64 l0_1 x8_1).f4.f0))).setCell ⟨gb188, 9, none⟩ (.int .i64 ((rd_T64 l0_1 x8_1).f4.f1))).setCell ⟨gb188, 10, none⟩ (.int .i64 ((rd_T64 l0_1 x8_1).f4.f2))).setCell ⟨gb188, 11, none⟩ (.int .i64 ((rd_T64 l0_1 x8_1).f4.f3))).setCell ⟨gb188, 12, none⟩ (.int .i64 ((rd_T64 l0_1 x8_1).f4.f4))).heap[gb180]? = some (.cells #[.string a0_0, .slice (some ad187) l0_1.length c0_1] 24 (0, 0))) := ⟨by (iterate 13 (with_reducible repeat (first | refine blk_drewN ?_ _ | refine blk_drew ?_ | refine blk_alloc ?_ _)); refine blk_far ?_ NB180_188.out _); exact bg BK180.out⟩
      have n2_ : Aside0 ((((((((((((((w23.setCell ⟨gb188, 0, none⟩ (.string ((rd_T64 l0_1 x8_1).f0.f0))).setCell ⟨gb188, 1, none⟩ (.int .i64 ((rd_T64 l0_1 x8_1).f0.f1))).setCell ⟨gb188, 2, none⟩ (.int .i64 ((rd_T64 l0_1 x8_1).f0.f2))).setCell ⟨gb188, 3, none⟩ (.int .i64 ((rd_T64 l0_1 x8_1).f0.f3))).setCell ⟨gb188, 4, none⟩ (.int .i64 ((rd_T64 l0_1 x8_1).f0.f4))).setCell ⟨gb188, 5, none⟩ (.int .i64 ((rd_T64 l0_1 x8_1).f1))).setCell ⟨gb188, 6, none⟩ (.int .i64 ((rd_T64 l0_1 x8_1).f2))).setCell ⟨gb188, 7, none⟩ (.bool ((rd_T64 l0_1 x8_1).f3))).setCell ⟨gb188, 8, none⟩ (.string ((rd_T64 l0_1 x8_1).f4.f0))).setCell ⟨gb188, 9, none⟩ (.int .i64 ((rd_T64 l0_1 x8_1).f4.f1))).setCell ⟨gb188, 10, none⟩ (.int .i64 ((rd_T64 l0_1 x8_1).f4.f2))).setCell ⟨gb188, 11, none⟩ (.int .i64 ((rd_T64 l0_1 x8_1).f4.f3))).setCell ⟨gb188, 12, none⟩ (.int .i64 ((rd_T64 l0_1 x8_1).f4.f4))).heap[gb181]? = some (.cells #[.slice A1_0 l1_0.length c1_0, .slice A1_1 l1_1.length c1_1] 28 (0, 0))) := ⟨by (iterate 13 (with_reducible repeat (first | refine blk_drewN ?_ _ | refine blk_drew ?_ | refine blk_alloc ?_ _)); refine blk_far ?_ NB181_188.out _); exact bg BK181.out⟩
      have n3_ : Aside0 ((((((((((((((w23.setCell ⟨gb188, 0, none⟩ (.string ((rd_T64 l0_1 x8_1).f0.f0))).setCell ⟨gb188, 1, none⟩ (.int .i64 ((rd_T64 l0_1 x8_1).f0.f1))).setCell ⟨gb188, 2, none⟩ (.int .i64 ((rd_T64 l0_1 x8_1).f0.f2))).setCell ⟨gb188, 3, none⟩ (.int .i64 ((rd_T64 l0_1 x8_1).f0.f3))).setCell ⟨gb188, 4, none⟩ (.int .i64 ((rd_T64 l0_1 x8_1).f0.f4))).setCell ⟨gb188, 5, none⟩ (.int .i64 ((rd_T64 l0_1 x8_1).f1))).setCell ⟨gb188, 6, none⟩ (.int .i64 ((rd_T64 l0_1 x8_1).f2))).setCell ⟨gb188, 7, none⟩ (.bool ((rd_T64 l0_1 x8_1).f3))).setCell ⟨gb188, 8, none⟩ (.string ((rd_T64 l0_1 x8_1).f4.f0))).setCell ⟨gb188, 9, none⟩ (.int .i64 ((rd_T64 l0_1 x8_1).f4.f1))).setCell ⟨gb188, 10, none⟩ (.int .i64 ((rd_T64 l0_1 x8_1).f4.f2))).setCell ⟨gb188, 11, none⟩ (.int .i64 ((rd_T64 l0_1 x8_1).f4.f3))).setCell ⟨gb188, 12, none⟩ (.int .i64 ((rd_T64 l0_1 x8_1).f4.f4))).heap[gb182]? = some (.cells #[.slice none 0 0] 31 (0, 0))) := ⟨by (iterate 13 (with_reducible repeat (first | refine blk_drewN ?_ _ | refine blk_drew ?_ | refine blk_alloc ?_ _)); refine blk_far ?_ NB182_188.out _); exact bg BK182.out⟩
      have n4_ : Aside0 ((((((((((((((w23.setCell ⟨gb188, 0, none⟩ (.string ((rd_T64 l0_1 x8_1).f0.f0))).setCell ⟨gb188, 1, none⟩ (.int .i64 ((rd_T64 l0_1 x8_1).f0.f1))).setCell ⟨gb188, 2, none⟩ (.int .i64 ((rd_T64 l0_1 x8_1).f0.f2))).setCell ⟨gb188, 3, none⟩ (.int .i64 ((rd_T64 l0_1 x8_1).f0.f3))).setCell ⟨gb188, 4, none⟩ (.int .i64 ((rd_T64 l0_1 x8_1).f0.f4))).setCell ⟨gb188, 5, none⟩ (.int .i64 ((rd_T64 l0_1 x8_1).f1))).setCell ⟨gb188, 6, none⟩ (.int .i64 ((rd_T64 l0_1 x8_1).f2))).setCell ⟨gb188, 7, none⟩ (.bool ((rd_T64 l0_1 x8_1).f3))).setCell ⟨gb188, 8, none⟩ (.string ((rd_T64 l0_1 x8_1).f4.f0))).setCell ⟨gb188, 9, none⟩ (.int .i64 ((rd_T64 l0_1 x8_1).f4.f1))).setCell ⟨gb188, 10, none⟩ (.int .i64 ((rd_T64 l0_1 x8_1).f4.f2))).setCell ⟨gb188, 11, none⟩ (.int .i64 ((rd_T64 l0_1 x8_1).f4.f3))).setCell ⟨gb188, 12, none⟩ (.int .i64 ((rd_T64 l0_1 x8_1).f4.f4))).heap[gb188]? = some (.cells #[.string ((rd_T64 l0_1 x8_1).f0.f0), .int .i64 ((rd_T64 l0_1 x8_1).f0.f1), .int .i64 ((rd_T64 l0_1 x8_1).f0.f2), .int .i64 ((rd_T64 l0_1 x8_1).f0.f3), .int .i64 ((rd_T64 l0_1 x8_1).f0.f4), .int .i64 ((rd_T64 l0_1 x8_1).f1), .int .i64 ((rd_T64 l0_1 x8_1).f2), .bool ((rd_T64 l0_1 x8_1).f3), .string ((rd_T64 l0_1 x8_1).f4.f0), .int .i64 ((rd_T64 l0_1 x8_1).f4.f1), .int .i64 ((rd_T64 l0_1 x8_1).f4.f2), .int .i64 ((rd_T64 l0_1 x8_1).f4.f3), .int .i64 ((rd_T64 l0_1 x8_1).f4.f4)] 64 (0, 0))) := ⟨by exact pt13 (bg BK188.out)⟩
      have n5_ : Aside0 (Below w.heap.size w (((((((((((((w23.setCell ⟨gb188, 0, none⟩ (.string ((rd_T64 l0_1 x8_1).f0.f0))).setCell ⟨gb188, 1, none⟩ (.int .i64 ((rd_T64 l0_1 x8_1).f0.f1))).setCell ⟨gb188, 2, none⟩ (.int .i64 ((rd_T64 l0_1 x8_1).f0.f2))).setCell ⟨gb188, 3, none⟩ (.int .i64 ((rd_T64 l0_1 x8_1).f0.f3))).setCell ⟨gb188, 4, none⟩ (.int .i64 ((rd_T64 l0_1 x8_1).f0.f4))).setCell ⟨gb188, 5, none⟩ (.int .i64 ((rd_T64 l0_1 x8_1).f1))).setCell ⟨gb188, 6, none⟩ (.int .i64 ((rd_T64 l0_1 x8_1).f2))).setCell ⟨gb188, 7, none⟩ (.bool ((rd_T64 l0_1 x8_1).f3))).setCell ⟨gb188, 8, none⟩ (.string ((rd_T64 l0_1 x8_1).f4.f0))).setCell ⟨gb188, 9, none⟩ (.int .i64 ((rd_T64 l0_1 x8_1).f4.f1))).setCell ⟨gb188, 10, none⟩ (.int .i64 ((rd_T64 l0_1 x8_1).f4.f2))).setCell ⟨gb188, 11, none⟩ (.int .i64 ((rd_T64 l0_1 x8_1).f4.f3))).setCell ⟨gb188, 12, none⟩ (.int .i64 ((rd_T64 l0_1 x8_1).f4.f4)))) := ⟨bs HB.out⟩
      (try clear HO_7)
      (try clear BK180)
      (try clear BK181)
      (try clear BK182)
      (try clear BK188)
      (try clear HB)
      generalize (((((((((((((w23.setCell ⟨gb188, 0, none⟩ (.string ((rd_T64 l0_1 x8_1).f0.f0))).setCell ⟨gb188, 1, none⟩ (.int .i64 ((rd_T64 l0_1 x8_1).f0.f1))).setCell ⟨gb188, 2, none⟩ (.int .i64 ((rd_T64 l0_1 x8_1).f0.f2))).setCell ⟨gb188, 3, none⟩ (.int .i64 ((rd_T64 l0_1 x8_1).f0.f3))).setCell ⟨gb188, 4, none⟩ (.int .i64 ((rd_T64 l0_1 x8_1).f0.f4))).setCell ⟨gb188, 5, none⟩ (.int .i64 ((rd_T64 l0_1 x8_1).f1))).setCell ⟨gb188, 6, none⟩ (.int .i64 ((rd_T64 l0_1 x8_1).f2))).setCell ⟨gb188, 7, none⟩ (.bool ((rd_T64 l0_1 x8_1).f3))).setCell ⟨gb188, 8, none⟩ (.string ((rd_T64 l0_1 x8_1).f4.f0))).setCell ⟨gb188, 9, none⟩ (.int .i64 ((rd_T64 l0_1 x8_1).f4.f1))).setCell ⟨gb188, 10, none⟩ (.int .i64 ((rd_T64 l0_1 x8_1).f4.f2))).setCell ⟨gb188, 11, none⟩ (.int .i64 ((rd_T64 l0_1 x8_1).f4.f3))).setCell ⟨gb188, 12, none⟩ (.int .i64 ((rd_T64 l0_1 x8_1).f4.f4))) = w28 at n0_ n1_ n2_ n3_ n4_ n5_ ⊢
      have HO_7 := n0_
      have BK180 := n1_
      have BK181 := n2_
      have BK182 := n3_
      have BK188 := n4_
      have HB := n5_
      clear n0_ n1_ n2_ n3_ n4_ n5_
      have n0_ := Aside0.mk (Kd.R_drew HO_7.out)
      have n1_ := Aside0.mk (blk_drew BK180.out)
      have n2_ := Aside0.mk (blk_drew BK181.out)
      have n3_ := Aside0.mk (blk_drew BK182.out)
      have n4_ := Aside0.mk (blk_drew BK188.out)
      have n5_ := Aside0.mk (below_drew1 HB.out)
      clear HO_7
      clear BK180
      clear BK181
      clear BK182
      clear BK188
      clear HB
      have HO_7 := n0_
      have BK180 := n1_
      have BK181 := n2_
      have BK182 := n3_
      have BK188 := n4_
      have HB := n5_
      clear n0_ n1_ n2_ n3_ n4_ n5_
      refine start_ (n := 11) (S := fun w' => w'.cell? ⟨gb188, 0, none⟩ = some (.string ((rd_T64 l0_1 x8_1).f0.f0)) ∧ w'.cell? ⟨gb188, 1, none⟩ = some (.int .i64 ((rd_T64 l0_1 x8_1).f0.f1)) ∧ w'.cell? ⟨gb188, 2, none⟩ = some (.int .i64 ((rd_T64 l0_1 x8_1).f0.f2)) ∧ w'.cell? ⟨gb188, 3, none⟩ = some (.int .i64 ((rd_T64 l0_1 x8_1).f0.f3)) ∧ w'.cell? ⟨gb188, 4, none⟩ = some (.int .i64 ((rd_T64 l0_1 x8_1).f0.f4)) ∧ w'.cell? ⟨gb188, 5, none⟩ = some (.int .i64 ((rd_T64 l0_1 x8_1).f1)) ∧ w'.cell? ⟨gb188, 6, none⟩ = some (.int .i64 ((rd_T64 l0_1 x8_1).f2)) ∧ w'.cell? ⟨gb188, 7, none⟩ = some (.bool ((rd_T64 l0_1 x8_1).f3)) ∧ w'.cell? ⟨gb188, 8, none⟩ = some (.string ((rd_T64 l0_1 x8_1).f4.f0)) ∧ w'.cell? ⟨gb188, 9, none⟩ = some (.int .i64 ((rd_T64 l0_1 x8_1).f4.f1)) ∧ w'.cell? ⟨gb188, 10, none⟩ = some (.int .i64 ((rd_T64 l0_1 x8_1).f4.f2)) ∧ w'.cell? ⟨gb188, 11, none⟩ = some (.int .i64 ((rd_T64 l0_1 x8_1).f4.f3)) ∧ w'.cell? ⟨gb188, 12, none⟩ = some (.int .i64 ((rd_T64 l0_1 x8_1).f4.f4)) ∧ w'.cell? ⟨gb181, 0, none⟩ = some (.slice A1_0 l1_0.length c1_0) ∧ w'.cell? ⟨gb181, 1, none⟩ = some (.slice A1_1 l1_1.length c1_1)) (ds := []) (bsq 0 11) (by kernel_rfl) rfl rfl ⟨(blk_cell BK188.out 0).trans rfl, (blk_cell BK188.out 1).trans rfl, (blk_cell BK188.out 2).trans rfl, (blk_cell BK188.out 3).trans rfl, (blk_cell BK188.out 4).trans rfl, (blk_cell BK188.out 5).trans rfl, (blk_cell BK188.out 6).trans rfl, (blk_cell BK188.out 7).trans rfl, (blk_cell BK188.out 8).trans rfl, (blk_cell BK188.out 9).trans rfl, (blk_cell BK188.out 10).trans rfl, (blk_cell BK188.out 11).trans rfl, (blk_cell BK188.out 12).trans rfl, (blk_cell BK181.out 0).trans rfl, (blk_cell BK181.out 1).trans rfl⟩ (fun hHeld => ?_); refine with_tabW signalbenchref44_Compile.tab9 signalbenchref44_Compile.bits9 (fun HT_ HW_ => ?_)
      generalize w28.drew = w29 at HO_7 BK180 BK181 BK182 BK188 HB hHeld ⊢
      refine pure_ (i := 0) (N := some 32) (v := ?_) (a' := ?_) (bsq 1 10) rfl rfl (any_of HT_.out (by kernel_rfl)) (fun _ _ _ h => h) (Or.inl ⟨by rfl, ?_⟩) ?_ ?_
      rotate_left
      ·
       intro w'
       go_simp
       with_reducible rfl
      rotate_left
      ·
       simp only [Act.put, List.setIfInBounds_toArray, List.set_cons_zero, List.set_cons_succ, i64_w, i32_w]
       rfl
      refine pure_ (i := 4) (N := some 36) (v := ?_) (a' := ?_) #[true, false, false, false, true, false, false, false, false, false, false] rfl rfl (any_of HT_.out (by kernel_rfl)) (fun _ _ _ h => h) (Or.inl ⟨by rfl, ?_⟩) ?_ ?_
      rotate_left
      ·
       intro w'
       go_simp
       with_reducible rfl
      rotate_left
      ·
       simp only [Act.put, List.setIfInBounds_toArray, List.set_cons_zero, List.set_cons_succ, i64_w, i32_w]
       rfl
      refine pure_ (i := 6) (N := some 38) (v := ?_) (a' := ?_) #[true, false, false, false, true, false, true, false, false, false, false] rfl rfl (any_of HT_.out (by kernel_rfl)) (fun _ _ _ h => h) (Or.inl ⟨by rfl, ?_⟩) ?_ ?_
      rotate_left
      ·
       intro w'
       go_simp
       with_reducible rfl
      rotate_left
      ·
       simp only [Act.put, List.setIfInBounds_toArray, List.set_cons_zero, List.set_cons_succ, i64_w, i32_w]
       rfl
      refine take_ (i := 1) (N := some 33) (v := ?_) (a' := ?_) #[true, true, false, false, true, false, true, false, false, false, false] rfl rfl (take_ofW HT_.out HW_.out (by kernel_rfl)) (fun _ _ _ h => h) (Or.inl ⟨by rfl, ?_⟩) hHeld ?_ ?_
      rotate_left
      ·
       rintro w' ⟨s0, s1, s2, s3, s4, s5, s6, s7, s8, s9, s10, s11, s12, s13, s14⟩
       go_simp
       with_reducible rfl
      rotate_left
      ·
       simp only [Act.put, List.setIfInBounds_toArray, List.set_cons_zero, List.set_cons_succ, i64_w, i32_w]
       rfl
      refine take_ (i := 2) (N := some 34) (v := ?_) (a' := ?_) #[true, true, true, false, true, false, true, false, false, false, false] rfl rfl (take_ofW HT_.out HW_.out (by kernel_rfl)) (fun _ _ _ h => h) (Or.inl ⟨by rfl, ?_⟩) hHeld ?_ ?_
      rotate_left
      ·
       rintro w' ⟨s0, s1, s2, s3, s4, s5, s6, s7, s8, s9, s10, s11, s12, s13, s14⟩
       go_simp
       with_reducible rfl
      rotate_left
      ·
       simp only [Act.put, List.setIfInBounds_toArray, List.set_cons_zero, List.set_cons_succ, i64_w, i32_w]
       rfl
      refine take_ (i := 5) (N := some 37) (v := ?_) (a' := ?_) #[true, true, true, false, true, true, true, false, false, false, false] rfl rfl (take_ofW HT_.out HW_.out (by kernel_rfl)) (fun _ _ _ h => h) (Or.inl ⟨by rfl, ?_⟩) hHeld ?_ ?_
      rotate_left
      ·
       rintro w' ⟨s0, s1, s2, s3, s4, s5, s6, s7, s8, s9, s10, s11, s12, s13, s14⟩
       go_simp
       with_reducible rfl
      rotate_left
      ·
       simp only [Act.put, List.setIfInBounds_toArray, List.set_cons_zero, List.set_cons_succ, i64_w, i32_w]
       rfl
      refine take_ (i := 7) (N := some 39) (v := ?_) (a' := ?_) #[true, true, true, false, true, true, true, true, false, false, false] rfl rfl (take_ofW HT_.out HW_.out (by kernel_rfl)) (fun _ _ _ h => h) (Or.inl ⟨by rfl, ?_⟩) hHeld ?_ ?_
      rotate_left
      ·
       rintro w' ⟨s0, s1, s2, s3, s4, s5, s6, s7, s8, s9, s10, s11, s12, s13, s14⟩
       go_simp
       with_reducible rfl
      rotate_left
      ·
       simp only [Act.put, List.setIfInBounds_toArray, List.set_cons_zero, List.set_cons_succ, i64_w, i32_w]
       rfl
      refine join_ (σ := Nat) 1 (bsq 10 1) (fun s_ => [(35, .agg #[.int .i64 t189, .int .i64 t190, .int .i64 t191, .int .i64 t192, .int .i64 t193]), (10, .pointer (some ⟨s_, 0, none⟩)), (40, .agg #[.int .i64 t189, .int .i64 t190, .int .i64 t191, .int .i64 t192, .int .i64 t193, .int .i64 ((rd_T64 l0_1 x8_1).f2), .bool ((rd_T64 l0_1 x8_1).f3), .int .i64 0, .int .i64 0, .int .i64 0, .int .i64 0, .int .i64 0])]) (fun s_ w' => (w'.cell? ⟨gb188, 0, none⟩ = some (.string ((rd_T64 l0_1 x8_1).f0.f0)) ∧ w'.cell? ⟨gb188, 1, none⟩ = some (.int .i64 ((rd_T64 l0_1 x8_1).f0.f1)) ∧ w'.cell? ⟨gb188, 2, none⟩ = some (.int .i64 ((rd_T64 l0_1 x8_1).f0.f2)) ∧ w'.cell? ⟨gb188, 3, none⟩ = some (.int .i64 ((rd_T64 l0_1 x8_1).f0.f3)) ∧ w'.cell? ⟨gb188, 4, none⟩ = some (.int .i64 ((rd_T64 l0_1 x8_1).f0.f4)) ∧ w'.cell? ⟨gb188, 5, none⟩ = some (.int .i64 ((rd_T64 l0_1 x8_1).f1)) ∧ w'.cell? ⟨gb188, 6, none⟩ = some (.int .i64 ((rd_T64 l0_1 x8_1).f2)) ∧ w'.cell? ⟨gb188, 7, none⟩ = some (.bool ((rd_T64 l0_1 x8_1).f3)) ∧ w'.cell? ⟨gb188, 8, none⟩ = some (.string ((rd_T64 l0_1 x8_1).f4.f0)) ∧ w'.cell? ⟨gb188, 9, none⟩ = some (.int .i64 ((rd_T64 l0_1 x8_1).f4.f1)) ∧ w'.cell? ⟨gb188, 10, none⟩ = some (.int .i64 ((rd_T64 l0_1 x8_1).f4.f2)) ∧ w'.cell? ⟨gb188, 11, none⟩ = some (.int .i64 ((rd_T64 l0_1 x8_1).f4.f3)) ∧ w'.cell? ⟨gb188, 12, none⟩ = some (.int .i64 ((rd_T64 l0_1 x8_1).f4.f4)) ∧ w'.cell? ⟨gb181, 0, none⟩ = some (.slice A1_0 l1_0.length c1_0) ∧ w'.cell? ⟨gb181, 1, none⟩ = some (.slice A1_1 l1_1.length c1_1)) ∧ (Kd.R k50 50 w' w.heap.size (fun k_ => k_ ≠ s_) u7 x7_1) ∧ (w'.heap[gb180]? = some (.cells #[.string a0_0, .slice (some ad187) l0_1.length c0_1] 24 (0, 0))) ∧ (w'.heap[gb181]? = some (.cells #[.slice A1_0 l1_0.length c1_0, .slice A1_1 l1_1.length c1_1] 28 (0, 0))) ∧ (w'.heap[gb182]? = some (.cells #[.slice none 0 0] 31 (0, 0))) ∧ (w'.heap[gb188]? = some (.cells #[.string ((rd_T64 l0_1 x8_1).f0.f0), .int .i64 ((rd_T64 l0_1 x8_1).f0.f1), .int .i64 ((rd_T64 l0_1 x8_1).f0.f2), .int .i64 ((rd_T64 l0_1 x8_1).f0.f3), .int .i64 ((rd_T64 l0_1 x8_1).f0.f4), .int .i64 ((rd_T64 l0_1 x8_1).f1), .int .i64 ((rd_T64 l0_1 x8_1).f2), .bool ((rd_T64 l0_1 x8_1).f3), .string ((rd_T64 l0_1 x8_1).f4.f0), .int .i64 ((rd_T64 l0_1 x8_1).f4.f1), .int .i64 ((rd_T64 l0_1 x8_1).f4.f2), .int .i64 ((rd_T64 l0_1 x8_1).f4.f3), .int .i64 ((rd_T64 l0_1 x8_1).f4.f4)] 64 (0, 0))) ∧ (w'.heap[s_]? = some (.cells #[.int .i64 0, .int .i64 0, .int .i64 0, .int .i64 0, .int .i64 0, .int .i64 0, .bool false, .int .i64 0, .int .i64 0, .int .i64 0, .int .i64 0, .int .i64 0] 50 (0, 0))) ∧ (w.heap.size ≤ s_) ∧ (w.heap.size ≤ s_) ∧ (gb180 ≠ s_) ∧ (s_ ≠ gb180) ∧ (gb181 ≠ s_) ∧ (s_ ≠ gb181) ∧ (gb182 ≠ s_) ∧ (s_ ≠ gb182) ∧ (gb188 ≠ s_) ∧ (s_ ≠ gb188) ∧ (Below w.heap.size w w')) ?_ ?_
      rotate_left
      ·
       intro hCont
       refine two_ (i := 3) (j := 9) (Ni := some 35) (Nj := some 10) (bsq 8 3) #[true, true, true, false, true, true, true, true, false, true, false] rfl rfl rfl rfl (two_of HT_.out (by kernel_rfl)) (by decide) (by decide) (fun K hK => ?_) (fun K hK => ?_)
       ·
        skip
        refine goes_ Try.func41 (by kernel_rfl) rfl #[.agg #[.string ((rd_T64 l0_1 x8_1).f0.f0), .int .i64 ((rd_T64 l0_1 x8_1).f0.f1), .int .i64 ((rd_T64 l0_1 x8_1).f0.f2), .int .i64 ((rd_T64 l0_1 x8_1).f0.f3), .int .i64 ((rd_T64 l0_1 x8_1).f0.f4)], .agg #[.slice A1_0 l1_0.length c1_0, .slice A1_1 l1_1.length c1_1]] (by rfl) rfl rfl (by (try simp only [List.map_toArray, List.map_cons, List.map_nil]); first | done | rfl | (simp only [List.length_drop, List.length_take]; rfl)) ?_
        with_reducible refine (signalbenchref44_compiled.calls k1 ((rd_T64 l0_1 x8_1).f0.f0) ((rd_T64 l0_1 x8_1).f0.f1) ((rd_T64 l0_1 x8_1).f0.f2) ((rd_T64 l0_1 x8_1).f0.f3) ((rd_T64 l0_1 x8_1).f0.f4) _ _ l1_0 _ _ l1_1 t189 t190 t191 t192 t193 _ ?side1 ?side2 ?side3 ?side4 A18.out).mono ?_
        (case side1 => repeat (first | exact (Kd.C_below HR1_0.out HB.out) | (with_reducible refine Kd.C_alloc ?_ _) | (with_reducible refine Kd.C_drewN ?_ _) | (with_reducible refine Kd.C_drew ?_)))
        (case side2 => exact HC1_0.out)
        (case side3 => repeat (first | exact (Kd.C_below HR1_1.out HB.out) | (with_reducible refine Kd.C_alloc ?_ _) | (with_reducible refine Kd.C_drewN ?_ _) | (with_reducible refine Kd.C_drew ?_)))
        (case side4 => exact HC1_1.out)
        rintro e w30 ⟨rfl, hb⟩
        refine ⟨_, rfl, ?_⟩
        have n0_ := Aside0.mk (Kd.R_below (by (with_reducible repeat (first | apply Kd.R_alloc | apply Kd.R_drewN | apply Kd.R_drew)); exact HO_7.out) hb)
        have n1_ := Aside0.mk (blk_below (bg BK180.out) hb)
        have n2_ := Aside0.mk (blk_below (bg BK181.out) hb)
        have n3_ := Aside0.mk (blk_below (bg BK182.out) hb)
        have n4_ := Aside0.mk (blk_below (bg BK188.out) hb)
        have n5_ := Aside0.mk (below_step (bs HB.out) hb)
        clear HO_7
        clear BK180
        clear BK181
        clear BK182
        clear BK188
        clear HB
        have HO_7 := n0_
        have BK180 := n1_
        have BK181 := n2_
        have BK182 := n3_
        have BK188 := n4_
        have HB := n5_
        clear n0_ n1_ n2_ n3_ n4_ n5_
        (try clear hb)
        (try clear hb2)
        (try clear hk)
        (try clear hi)
        refine hK.out _ _ ⟨(blk_cell BK188.out 0).trans rfl, (blk_cell BK188.out 1).trans rfl, (blk_cell BK188.out 2).trans rfl, (blk_cell BK188.out 3).trans rfl, (blk_cell BK188.out 4).trans rfl, (blk_cell BK188.out 5).trans rfl, (blk_cell BK188.out 6).trans rfl, (blk_cell BK188.out 7).trans rfl, (blk_cell BK188.out 8).trans rfl, (blk_cell BK188.out 9).trans rfl, (blk_cell BK188.out 10).trans rfl, (blk_cell BK188.out 11).trans rfl, (blk_cell BK188.out 12).trans rfl, (blk_cell BK181.out 0).trans rfl, (blk_cell BK181.out 1).trans rfl⟩ (fun hHeld => ?_)
        clear hK K
        refine norm_ (a' := ?_) ?_ ?_
        rotate_left
        ·
         show Act.put _ (some 35) _ = _
         simp only [Act.put, List.setIfInBounds_toArray, List.set_cons_zero, List.set_cons_succ, i64_w, i32_w]
         rfl
        refine pure_ (i := 8) (N := some 40) (v := ?_) (a' := ?_) (bsq 9 2) rfl rfl (any_of HT_.out (by kernel_rfl)) (fun _ _ _ h => h) (Or.inl ⟨by rfl, ?_⟩) ?_ ?_
        rotate_left
        ·
         intro w'
         go_simp
         with_reducible rfl
        rotate_left
        ·
         simp only [Act.put, List.setIfInBounds_toArray, List.set_cons_zero, List.set_cons_succ, i64_w, i32_w]
         rfl
        refine one_ (i := 9) (N := some 10) (bsq 10 1) rfl rfl (one_of HT_.out (by kernel_rfl)) (by decide) (fun K hK => ?_)
        refine box_step ?hg (N := 10) ?hd (cs := #[.int .i64 0, .int .i64 0, .int .i64 0, .int .i64 0, .int .i64 0, .int .i64 0, .bool false, .int .i64 0, .int .i64 0, .int .i64 0, .int .i64 0, .int .i64 0]) (t := 50) ?hr ?_; (case hd => rfl); (case hg => rfl); (case hr => first | (go_simp; done) | (go_simp; rfl))
        intro gb194 hg w31 hbox hb
        have n0_ := Aside0.mk (Kd.R_below (Kd.R_elderB (by (with_reducible repeat (first | apply Kd.R_alloc | apply Kd.R_drewN | apply Kd.R_drew)); exact HO_7.out) gb194 (Nat.le_of_eq hg.symm)) hb)
        have n1_ := Aside0.mk (blk_below (bg BK180.out) hb)
        have n2_ := Aside0.mk (blk_below (bg BK181.out) hb)
        have n3_ := Aside0.mk (blk_below (bg BK182.out) hb)
        have n4_ := Aside0.mk (blk_below (bg BK188.out) hb)
        have n5_ := Aside0.mk (below_step (bs HB.out) hb)
        have n6_ := Aside0.mk (hbox)
        have n7_ := Aside0.mk ((by rw [hg]; exact (below_size (bs HB.out)) : w.heap.size ≤ gb194))
        have n8_ := Aside0.mk ((by rw [hg]; exact (below_size (bs HB.out)) : w.heap.size ≤ gb194))
        have n9_ := Aside0.mk ((by rw [hg]; exact Nat.ne_of_lt (blk_lt (bg BK180.out)) : gb180 ≠ gb194))
        have n10_ := Aside0.mk ((by rw [hg]; exact Nat.ne_of_gt (blk_lt (bg BK180.out)) : gb194 ≠ gb180))
        have n11_ := Aside0.mk ((by rw [hg]; exact Nat.ne_of_lt (blk_lt (bg BK181.out)) : gb181 ≠ gb194))
        have n12_ := Aside0.mk ((by rw [hg]; exact Nat.ne_of_gt (blk_lt (bg BK181.out)) : gb194 ≠ gb181))
        have n13_ := Aside0.mk ((by rw [hg]; exact Nat.ne_of_lt (blk_lt (bg BK182.out)) : gb182 ≠ gb194))
        have n14_ := Aside0.mk ((by rw [hg]; exact Nat.ne_of_gt (blk_lt (bg BK182.out)) : gb194 ≠ gb182))
        have n15_ := Aside0.mk ((by rw [hg]; exact Nat.ne_of_lt (blk_lt (bg BK188.out)) : gb188 ≠ gb194))
        have n16_ := Aside0.mk ((by rw [hg]; exact Nat.ne_of_gt (blk_lt (bg BK188.out)) : gb194 ≠ gb188))
        clear HO_7
        clear BK180
        clear BK181
        clear BK182
        clear BK188
        clear HB
        have HO_7 := n0_
        have BK180 := n1_
        have BK181 := n2_
        have BK182 := n3_
        have BK188 := n4_
        have HB := n5_
        have BK194 := n6_
        have GW194 := n7_
        have GE194 := n8_
        have NB180_194 := n9_
        have NB194_180 := n10_
        have NB181_194 := n11_
        have NB194_181 := n12_
        have NB182_194 := n13_
        have NB194_182 := n14_
        have NB188_194 := n15_
        have NB194_188 := n16_
        clear n0_ n1_ n2_ n3_ n4_ n5_ n6_ n7_ n8_ n9_ n10_ n11_ n12_ n13_ n14_ n15_ n16_
        clear hb hbox hg
        refine hK.out _ _ ⟨(blk_cell BK188.out 0).trans rfl, (blk_cell BK188.out 1).trans rfl, (blk_cell BK188.out 2).trans rfl, (blk_cell BK188.out 3).trans rfl, (blk_cell BK188.out 4).trans rfl, (blk_cell BK188.out 5).trans rfl, (blk_cell BK188.out 6).trans rfl, (blk_cell BK188.out 7).trans rfl, (blk_cell BK188.out 8).trans rfl, (blk_cell BK188.out 9).trans rfl, (blk_cell BK188.out 10).trans rfl, (blk_cell BK188.out 11).trans rfl, (blk_cell BK188.out 12).trans rfl, (blk_cell BK181.out 0).trans rfl, (blk_cell BK181.out 1).trans rfl⟩ (fun hHeld => ?_)
        clear hK K
        refine norm_ (a' := ?_) ?_ ?_
        rotate_left
        ·
         show Act.put _ (some 10) _ = _
         simp only [Act.put, List.setIfInBounds_toArray, List.set_cons_zero, List.set_cons_succ, i64_w, i32_w]
         rfl
        exact norm_ (by simp only [putAll, Act.put, List.setIfInBounds_toArray, List.set_cons_zero, List.set_cons_succ]) (hCont (gb194) _ ⟨hHeld, (by (with_reducible repeat (first | apply Kd.R_alloc | apply Kd.R_drewN | apply Kd.R_drew)); exact Kd.R_mono HO_7.out (fun _ hk => hk.2)), (bg BK180.out), (bg BK181.out), (bg BK182.out), (bg BK188.out), (bg BK194.out), GW194.out, GE194.out, NB180_194.out, NB194_180.out, NB181_194.out, NB194_181.out, NB182_194.out, NB194_182.out, NB188_194.out, NB194_188.out, (bs HB.out)⟩)
       ·
        skip
        refine box_step ?hg (N := 10) ?hd (cs := #[.int .i64 0, .int .i64 0, .int .i64 0, .int .i64 0, .int .i64 0, .int .i64 0, .bool false, .int .i64 0, .int .i64 0, .int .i64 0, .int .i64 0, .int .i64 0]) (t := 50) ?hr ?_; (case hd => rfl); (case hg => rfl); (case hr => first | (go_simp; done) | (go_simp; rfl))
        intro gb194 hg w30 hbox hb
        have n0_ := Aside0.mk (Kd.R_below (Kd.R_elderB (by (with_reducible repeat (first | apply Kd.R_alloc | apply Kd.R_drewN | apply Kd.R_drew)); exact HO_7.out) gb194 (Nat.le_of_eq hg.symm)) hb)
        have n1_ := Aside0.mk (blk_below (bg BK180.out) hb)
        have n2_ := Aside0.mk (blk_below (bg BK181.out) hb)
        have n3_ := Aside0.mk (blk_below (bg BK182.out) hb)
        have n4_ := Aside0.mk (blk_below (bg BK188.out) hb)
        have n5_ := Aside0.mk (below_step (bs HB.out) hb)
        have n6_ := Aside0.mk (hbox)
        have n7_ := Aside0.mk ((by rw [hg]; exact (below_size (bs HB.out)) : w.heap.size ≤ gb194))
        have n8_ := Aside0.mk ((by rw [hg]; exact (below_size (bs HB.out)) : w.heap.size ≤ gb194))
        have n9_ := Aside0.mk ((by rw [hg]; exact Nat.ne_of_lt (blk_lt (bg BK180.out)) : gb180 ≠ gb194))
        have n10_ := Aside0.mk ((by rw [hg]; exact Nat.ne_of_gt (blk_lt (bg BK180.out)) : gb194 ≠ gb180))
        have n11_ := Aside0.mk ((by rw [hg]; exact Nat.ne_of_lt (blk_lt (bg BK181.out)) : gb181 ≠ gb194))
        have n12_ := Aside0.mk ((by rw [hg]; exact Nat.ne_of_gt (blk_lt (bg BK181.out)) : gb194 ≠ gb181))
        have n13_ := Aside0.mk ((by rw [hg]; exact Nat.ne_of_lt (blk_lt (bg BK182.out)) : gb182 ≠ gb194))
        have n14_ := Aside0.mk ((by rw [hg]; exact Nat.ne_of_gt (blk_lt (bg BK182.out)) : gb194 ≠ gb182))
        have n15_ := Aside0.mk ((by rw [hg]; exact Nat.ne_of_lt (blk_lt (bg BK188.out)) : gb188 ≠ gb194))
        have n16_ := Aside0.mk ((by rw [hg]; exact Nat.ne_of_gt (blk_lt (bg BK188.out)) : gb194 ≠ gb188))
        clear HO_7
        clear BK180
        clear BK181
        clear BK182
        clear BK188
        clear HB
        have HO_7 := n0_
        have BK180 := n1_
        have BK181 := n2_
        have BK182 := n3_
        have BK188 := n4_
        have HB := n5_
        have BK194 := n6_
        have GW194 := n7_
        have GE194 := n8_
        have NB180_194 := n9_
        have NB194_180 := n10_
        have NB181_194 := n11_
        have NB194_181 := n12_
        have NB182_194 := n13_
        have NB194_182 := n14_
        have NB188_194 := n15_
        have NB194_188 := n16_
        clear n0_ n1_ n2_ n3_ n4_ n5_ n6_ n7_ n8_ n9_ n10_ n11_ n12_ n13_ n14_ n15_ n16_
        clear hb hbox hg
        refine hK.out _ _ ⟨(blk_cell BK188.out 0).trans rfl, (blk_cell BK188.out 1).trans rfl, (blk_cell BK188.out 2).trans rfl, (blk_cell BK188.out 3).trans rfl, (blk_cell BK188.out 4).trans rfl, (blk_cell BK188.out 5).trans rfl, (blk_cell BK188.out 6).trans rfl, (blk_cell BK188.out 7).trans rfl, (blk_cell BK188.out 8).trans rfl, (blk_cell BK188.out 9).trans rfl, (blk_cell BK188.out 10).trans rfl, (blk_cell BK188.out 11).trans rfl, (blk_cell BK188.out 12).trans rfl, (blk_cell BK181.out 0).trans rfl, (blk_cell BK181.out 1).trans rfl⟩ (fun hHeld => ?_)
        clear hK K
        refine norm_ (a' := ?_) ?_ ?_
        rotate_left
        ·
         show Act.put _ (some 10) _ = _
         simp only [Act.put, List.setIfInBounds_toArray, List.set_cons_zero, List.set_cons_succ, i64_w, i32_w]
         rfl
        refine one_ (i := 3) (N := some 35) #[true, true, true, true, true, true, true, true, false, true, false] rfl rfl (one_of HT_.out (by kernel_rfl)) (by decide) (fun K hK => ?_)
        refine goes_ Try.func41 (by kernel_rfl) rfl #[.agg #[.string ((rd_T64 l0_1 x8_1).f0.f0), .int .i64 ((rd_T64 l0_1 x8_1).f0.f1), .int .i64 ((rd_T64 l0_1 x8_1).f0.f2), .int .i64 ((rd_T64 l0_1 x8_1).f0.f3), .int .i64 ((rd_T64 l0_1 x8_1).f0.f4)], .agg #[.slice A1_0 l1_0.length c1_0, .slice A1_1 l1_1.length c1_1]] (by rfl) rfl rfl (by (try simp only [List.map_toArray, List.map_cons, List.map_nil]); first | done | rfl | (simp only [List.length_drop, List.length_take]; rfl)) ?_
        with_reducible refine (signalbenchref44_compiled.calls k1 ((rd_T64 l0_1 x8_1).f0.f0) ((rd_T64 l0_1 x8_1).f0.f1) ((rd_T64 l0_1 x8_1).f0.f2) ((rd_T64 l0_1 x8_1).f0.f3) ((rd_T64 l0_1 x8_1).f0.f4) _ _ l1_0 _ _ l1_1 t189 t190 t191 t192 t193 _ ?side1 ?side2 ?side3 ?side4 A18.out).mono ?_
        (case side1 => repeat (first | exact (Kd.C_below HR1_0.out HB.out) | (with_reducible refine Kd.C_alloc ?_ _) | (with_reducible refine Kd.C_drewN ?_ _) | (with_reducible refine Kd.C_drew ?_)))
        (case side2 => exact HC1_0.out)
        (case side3 => repeat (first | exact (Kd.C_below HR1_1.out HB.out) | (with_reducible refine Kd.C_alloc ?_ _) | (with_reducible refine Kd.C_drewN ?_ _) | (with_reducible refine Kd.C_drew ?_)))
        (case side4 => exact HC1_1.out)
        rintro e w31 ⟨rfl, hb⟩
        refine ⟨_, rfl, ?_⟩
        have n0_ := Aside0.mk (Kd.R_below (by (with_reducible repeat (first | apply Kd.R_alloc | apply Kd.R_drewN | apply Kd.R_drew)); exact HO_7.out) hb)
        have n1_ := Aside0.mk (blk_below (bg BK180.out) hb)
        have n2_ := Aside0.mk (blk_below (bg BK181.out) hb)
        have n3_ := Aside0.mk (blk_below (bg BK182.out) hb)
        have n4_ := Aside0.mk (blk_below (bg BK188.out) hb)
        have n5_ := Aside0.mk (blk_below (bg BK194.out) hb)
        have n6_ := Aside0.mk (below_step (bs HB.out) hb)
        clear HO_7
        clear BK180
        clear BK181
        clear BK182
        clear BK188
        clear BK194
        clear HB
        have HO_7 := n0_
        have BK180 := n1_
        have BK181 := n2_
        have BK182 := n3_
        have BK188 := n4_
        have BK194 := n5_
        have HB := n6_
        clear n0_ n1_ n2_ n3_ n4_ n5_ n6_
        (try clear hb)
        (try clear hb2)
        (try clear hk)
        (try clear hi)
        refine hK.out _ _ ⟨(blk_cell BK188.out 0).trans rfl, (blk_cell BK188.out 1).trans rfl, (blk_cell BK188.out 2).trans rfl, (blk_cell BK188.out 3).trans rfl, (blk_cell BK188.out 4).trans rfl, (blk_cell BK188.out 5).trans rfl, (blk_cell BK188.out 6).trans rfl, (blk_cell BK188.out 7).trans rfl, (blk_cell BK188.out 8).trans rfl, (blk_cell BK188.out 9).trans rfl, (blk_cell BK188.out 10).trans rfl, (blk_cell BK188.out 11).trans rfl, (blk_cell BK188.out 12).trans rfl, (blk_cell BK181.out 0).trans rfl, (blk_cell BK181.out 1).trans rfl⟩ (fun hHeld => ?_)
        clear hK K
        refine norm_ (a' := ?_) ?_ ?_
        rotate_left
        ·
         show Act.put _ (some 35) _ = _
         simp only [Act.put, List.setIfInBounds_toArray, List.set_cons_zero, List.set_cons_succ, i64_w, i32_w]
         rfl
        refine pure_ (i := 8) (N := some 40) (v := ?_) (a' := ?_) (bsq 10 1) rfl rfl (any_of HT_.out (by kernel_rfl)) (fun _ _ _ h => h) (Or.inl ⟨by rfl, ?_⟩) ?_ ?_
        rotate_left
        ·
         intro w'
         go_simp
         with_reducible rfl
        rotate_left
        ·
         simp only [Act.put, List.setIfInBounds_toArray, List.set_cons_zero, List.set_cons_succ, i64_w, i32_w]
         rfl
        exact norm_ (by simp only [putAll, Act.put, List.setIfInBounds_toArray, List.set_cons_zero, List.set_cons_succ]) (hCont (gb194) _ ⟨hHeld, (by (with_reducible repeat (first | apply Kd.R_alloc | apply Kd.R_drewN | apply Kd.R_drew)); exact Kd.R_mono HO_7.out (fun _ hk => hk.2)), (bg BK180.out), (bg BK181.out), (bg BK182.out), (bg BK188.out), (bg BK194.out), GW194.out, GE194.out, NB180_194.out, NB194_180.out, NB181_194.out, NB194_181.out, NB182_194.out, NB194_182.out, NB188_194.out, NB194_188.out, (bs HB.out)⟩)
      rintro gb194 w32 ⟨hS_, h0_, h1_, h2_, h3_, h4_, h5_, h6_, h7_, h8_, h9_, h10_, h11_, h12_, h13_, h14_, h15_, h16_⟩
      have n0_ : Aside0 (Kd.R k50 50 w32 w.heap.size (fun k_ => k_ ≠ gb194) u7 x7_1) := ⟨h0_⟩
      have n1_ : Aside0 (w32.heap[gb180]? = some (.cells #[.string a0_0, .slice (some ad187) l0_1.length c0_1] 24 (0, 0))) := ⟨h1_⟩
      have n2_ : Aside0 (w32.heap[gb181]? = some (.cells #[.slice A1_0 l1_0.length c1_0, .slice A1_1 l1_1.length c1_1] 28 (0, 0))) := ⟨h2_⟩
      have n3_ : Aside0 (w32.heap[gb182]? = some (.cells #[.slice none 0 0] 31 (0, 0))) := ⟨h3_⟩
      have n4_ : Aside0 (w32.heap[gb188]? = some (.cells #[.string ((rd_T64 l0_1 x8_1).f0.f0), .int .i64 ((rd_T64 l0_1 x8_1).f0.f1), .int .i64 ((rd_T64 l0_1 x8_1).f0.f2), .int .i64 ((rd_T64 l0_1 x8_1).f0.f3), .int .i64 ((rd_T64 l0_1 x8_1).f0.f4), .int .i64 ((rd_T64 l0_1 x8_1).f1), .int .i64 ((rd_T64 l0_1 x8_1).f2), .bool ((rd_T64 l0_1 x8_1).f3), .string ((rd_T64 l0_1 x8_1).f4.f0), .int .i64 ((rd_T64 l0_1 x8_1).f4.f1), .int .i64 ((rd_T64 l0_1 x8_1).f4.f2), .int .i64 ((rd_T64 l0_1 x8_1).f4.f3), .int .i64 ((rd_T64 l0_1 x8_1).f4.f4)] 64 (0, 0))) := ⟨h4_⟩
      have n5_ : Aside0 (w32.heap[gb194]? = some (.cells #[.int .i64 0, .int .i64 0, .int .i64 0, .int .i64 0, .int .i64 0, .int .i64 0, .bool false, .int .i64 0, .int .i64 0, .int .i64 0, .int .i64 0, .int .i64 0] 50 (0, 0))) := ⟨h5_⟩
      have n6_ : Aside0 (w.heap.size ≤ gb194) := ⟨h6_⟩
      have n7_ : Aside0 (w.heap.size ≤ gb194) := ⟨h7_⟩
      have n8_ : Aside0 (gb180 ≠ gb194) := ⟨h8_⟩
      have n9_ : Aside0 (gb194 ≠ gb180) := ⟨h9_⟩
      have n10_ : Aside0 (gb181 ≠ gb194) := ⟨h10_⟩
      have n11_ : Aside0 (gb194 ≠ gb181) := ⟨h11_⟩
      have n12_ : Aside0 (gb182 ≠ gb194) := ⟨h12_⟩
      have n13_ : Aside0 (gb194 ≠ gb182) := ⟨h13_⟩
      have n14_ : Aside0 (gb188 ≠ gb194) := ⟨h14_⟩
      have n15_ : Aside0 (gb194 ≠ gb188) := ⟨h15_⟩
      have n16_ : Aside0 (Below w.heap.size w w32) := ⟨h16_⟩
      clear HO_7
      clear BK180
      clear BK181
      clear BK182
      clear BK188
      clear HB
      clear h0_ h1_ h2_ h3_ h4_ h5_ h6_ h7_ h8_ h9_ h10_ h11_ h12_ h13_ h14_ h15_ h16_
      have HO_7 := n0_
      have BK180 := n1_
      have BK181 := n2_
      have BK182 := n3_
      have BK188 := n4_
      have BK194 := n5_
      have GW194 := n6_
      have GE194 := n7_
      have NB180_194 := n8_
      have NB194_180 := n9_
      have NB181_194 := n10_
      have NB194_181 := n11_
      have NB182_194 := n12_
      have NB194_182 := n13_
      have NB188_194 := n14_
      have NB194_188 := n15_
      have HB := n16_
      clear n0_ n1_ n2_ n3_ n4_ n5_ n6_ n7_ n8_ n9_ n10_ n11_ n12_ n13_ n14_ n15_ n16_
      have hHeld : w32.cell? ⟨gb188, 0, none⟩ = some (.string ((rd_T64 l0_1 x8_1).f0.f0)) ∧ w32.cell? ⟨gb188, 1, none⟩ = some (.int .i64 ((rd_T64 l0_1 x8_1).f0.f1)) ∧ w32.cell? ⟨gb188, 2, none⟩ = some (.int .i64 ((rd_T64 l0_1 x8_1).f0.f2)) ∧ w32.cell? ⟨gb188, 3, none⟩ = some (.int .i64 ((rd_T64 l0_1 x8_1).f0.f3)) ∧ w32.cell? ⟨gb188, 4, none⟩ = some (.int .i64 ((rd_T64 l0_1 x8_1).f0.f4)) ∧ w32.cell? ⟨gb188, 5, none⟩ = some (.int .i64 ((rd_T64 l0_1 x8_1).f1)) ∧ w32.cell? ⟨gb188, 6, none⟩ = some (.int .i64 ((rd_T64 l0_1 x8_1).f2)) ∧ w32.cell? ⟨gb188, 7, none⟩ = some (.bool ((rd_T64 l0_1 x8_1).f3)) ∧ w32.cell? ⟨gb188, 8, none⟩ = some (.string ((rd_T64 l0_1 x8_1).f4.f0)) ∧ w32.cell? ⟨gb188, 9, none⟩ = some (.int .i64 ((rd_T64 l0_1 x8_1).f4.f1)) ∧ w32.cell? ⟨gb188, 10, none⟩ = some (.int .i64 ((rd_T64 l0_1 x8_1).f4.f2)) ∧ w32.cell? ⟨gb188, 11, none⟩ = some (.int .i64 ((rd_T64 l0_1 x8_1).f4.f3)) ∧ w32.cell? ⟨gb188, 12, none⟩ = some (.int .i64 ((rd_T64 l0_1 x8_1).f4.f4)) ∧ w32.cell? ⟨gb181, 0, none⟩ = some (.slice A1_0 l1_0.length c1_0) ∧ w32.cell? ⟨gb181, 1, none⟩ = some (.slice A1_1 l1_1.length c1_1) := hS_
      refine norm_ (a' := ?_) ?_ ?_
      rotate_left
      ·
       simp only [putAll, Act.put, List.setIfInBounds_toArray, List.set_cons_zero, List.set_cons_succ]
       rfl
      refine one_ (i := 10) (N := none) (bsq 11 0) rfl rfl (one_of HT_.out (by kernel_rfl)) (by decide) (fun K hK => ?_)
      have hs33 : w32.cell? ⟨gb194, 0, none⟩ = some (.int .i64 0) := (blk_cell BK194.out 0).trans rfl
      have hfs33 := blk_frozen BK194.out 0
      have hns33_0 := NB180_194.out
      have hns33_1 := NB181_194.out
      have hns33_2 := NB182_194.out
      have hns33_3 := NB188_194.out
      have hms33_0 := NB194_180.out
      have hms33_1 := NB194_181.out
      have hms33_2 := NB194_182.out
      have hms33_3 := NB194_188.out
      have hs34 : w32.cell? ⟨gb194, 1, none⟩ = some (.int .i64 0) := (blk_cell BK194.out 1).trans rfl
      have hfs34 := blk_frozen BK194.out 1
      have hns34_0 := NB180_194.out
      have hns34_1 := NB181_194.out
      have hns34_2 := NB182_194.out
      have hns34_3 := NB188_194.out
      have hms34_0 := NB194_180.out
      have hms34_1 := NB194_181.out
      have hms34_2 := NB194_182.out
      have hms34_3 := NB194_188.out
      have hs35 : w32.cell? ⟨gb194, 2, none⟩ = some (.int .i64 0) := (blk_cell BK194.out 2).trans rfl
      have hfs35 := blk_frozen BK194.out 2
      have hns35_0 := NB180_194.out
      have hns35_1 := NB181_194.out
      have hns35_2 := NB182_194.out
      have hns35_3 := NB188_194.out
      have hms35_0 := NB194_180.out
      have hms35_1 := NB194_181.out
      have hms35_2 := NB194_182.out
      have hms35_3 := NB194_188.out
      have hs36 : w32.cell? ⟨gb194, 3, none⟩ = some (.int .i64 0) := (blk_cell BK194.out 3).trans rfl
      have hfs36 := blk_frozen BK194.out 3
      have hns36_0 := NB180_194.out
      have hns36_1 := NB181_194.out
      have hns36_2 := NB182_194.out
      have hns36_3 := NB188_194.out
      have hms36_0 := NB194_180.out
      have hms36_1 := NB194_181.out
      have hms36_2 := NB194_182.out
      have hms36_3 := NB194_188.out
      have hs37 : w32.cell? ⟨gb194, 4, none⟩ = some (.int .i64 0) := (blk_cell BK194.out 4).trans rfl
      have hfs37 := blk_frozen BK194.out 4
      have hns37_0 := NB180_194.out
      have hns37_1 := NB181_194.out
      have hns37_2 := NB182_194.out
      have hns37_3 := NB188_194.out
      have hms37_0 := NB194_180.out
      have hms37_1 := NB194_181.out
      have hms37_2 := NB194_182.out
      have hms37_3 := NB194_188.out
      have hs38 : w32.cell? ⟨gb194, 5, none⟩ = some (.int .i64 0) := (blk_cell BK194.out 5).trans rfl
      have hfs38 := blk_frozen BK194.out 5
      have hns38_0 := NB180_194.out
      have hns38_1 := NB181_194.out
      have hns38_2 := NB182_194.out
      have hns38_3 := NB188_194.out
      have hms38_0 := NB194_180.out
      have hms38_1 := NB194_181.out
      have hms38_2 := NB194_182.out
      have hms38_3 := NB194_188.out
      have hs39 : w32.cell? ⟨gb194, 6, none⟩ = some (.bool false) := (blk_cell BK194.out 6).trans rfl
      have hfs39 := blk_frozen BK194.out 6
      have hns39_0 := NB180_194.out
      have hns39_1 := NB181_194.out
      have hns39_2 := NB182_194.out
      have hns39_3 := NB188_194.out
      have hms39_0 := NB194_180.out
      have hms39_1 := NB194_181.out
      have hms39_2 := NB194_182.out
      have hms39_3 := NB194_188.out
      have hs40 : w32.cell? ⟨gb194, 7, none⟩ = some (.int .i64 0) := (blk_cell BK194.out 7).trans rfl
      have hfs40 := blk_frozen BK194.out 7
      have hns40_0 := NB180_194.out
      have hns40_1 := NB181_194.out
      have hns40_2 := NB182_194.out
      have hns40_3 := NB188_194.out
      have hms40_0 := NB194_180.out
      have hms40_1 := NB194_181.out
      have hms40_2 := NB194_182.out
      have hms40_3 := NB194_188.out
      have hs41 : w32.cell? ⟨gb194, 8, none⟩ = some (.int .i64 0) := (blk_cell BK194.out 8).trans rfl
      have hfs41 := blk_frozen BK194.out 8
      have hns41_0 := NB180_194.out
      have hns41_1 := NB181_194.out
      have hns41_2 := NB182_194.out
      have hns41_3 := NB188_194.out
      have hms41_0 := NB194_180.out
      have hms41_1 := NB194_181.out
      have hms41_2 := NB194_182.out
      have hms41_3 := NB194_188.out
      have hs42 : w32.cell? ⟨gb194, 9, none⟩ = some (.int .i64 0) := (blk_cell BK194.out 9).trans rfl
      have hfs42 := blk_frozen BK194.out 9
      have hns42_0 := NB180_194.out
      have hns42_1 := NB181_194.out
      have hns42_2 := NB182_194.out
      have hns42_3 := NB188_194.out
      have hms42_0 := NB194_180.out
      have hms42_1 := NB194_181.out
      have hms42_2 := NB194_182.out
      have hms42_3 := NB194_188.out
      have hs43 : w32.cell? ⟨gb194, 10, none⟩ = some (.int .i64 0) := (blk_cell BK194.out 10).trans rfl
      have hfs43 := blk_frozen BK194.out 10
      have hns43_0 := NB180_194.out
      have hns43_1 := NB181_194.out
      have hns43_2 := NB182_194.out
      have hns43_3 := NB188_194.out
      have hms43_0 := NB194_180.out
      have hms43_1 := NB194_181.out
      have hms43_2 := NB194_182.out
      have hms43_3 := NB194_188.out
      have hs44 : w32.cell? ⟨gb194, 11, none⟩ = some (.int .i64 0) := (blk_cell BK194.out 11).trans rfl
      have hfs44 := blk_frozen BK194.out 11
      have hns44_0 := NB180_194.out
      have hns44_1 := NB181_194.out
      have hns44_2 := NB182_194.out
      have hns44_3 := NB188_194.out
      have hms44_0 := NB194_180.out
      have hms44_1 := NB194_181.out
      have hms44_2 := NB194_182.out
      have hms44_3 := NB194_188.out
      refine skip_ (w1 := ?_) (by rfl) rfl ?_ ?_
      rotate_left
      ·
       go_simp
       rfl
      refine hK.out _ _ ⟨((cell_far (p := ⟨gb194, _, none⟩) NB188_194.out _).trans (((cell_far (p := ⟨gb194, _, none⟩) NB188_194.out _).trans (((cell_far (p := ⟨gb194, _, none⟩) NB188_194.out _).trans (((cell_far (p := ⟨gb194, _, none⟩) NB188_194.out _).trans (((cell_far (p := ⟨gb194, _, none⟩) NB188_194.out _).trans (((cell_far (p := ⟨gb194, _, none⟩) NB188_194.out _).trans (((cell_far (p := ⟨gb194, _, none⟩) NB188_194.out _).trans (((cell_far (p := ⟨gb194, _, none⟩) NB188_194.out _).trans (((cell_far (p := ⟨gb194, _, none⟩) NB188_194.out _).trans (((cell_far (p := ⟨gb194, _, none⟩) NB188_194.out _).trans (((cell_far (p := ⟨gb194, _, none⟩) NB188_194.out _).trans (((cell_far (p := ⟨gb194, _, none⟩) NB188_194.out _).trans (hHeld.1)))))))))))))))))))))))), ((cell_far (p := ⟨gb194, _, none⟩) NB188_194.out _).trans (((cell_far (p := ⟨gb194, _, none⟩) NB188_194.out _).trans (((cell_far (p := ⟨gb194, _, none⟩) NB188_194.out _).trans (((cell_far (p := ⟨gb194, _, none⟩) NB188_194.out _).trans (((cell_far (p := ⟨gb194, _, none⟩) NB188_194.out _).trans (((cell_far (p := ⟨gb194, _, none⟩) NB188_194.out _).trans (((cell_far (p := ⟨gb194, _, none⟩) NB188_194.out _).trans (((cell_far (p := ⟨gb194, _, none⟩) NB188_194.out _).trans (((cell_far (p := ⟨gb194, _, none⟩) NB188_194.out _).trans (((cell_far (p := ⟨gb194, _, none⟩) NB188_194.out _).trans (((cell_far (p := ⟨gb194, _, none⟩) NB188_194.out _).trans (((cell_far (p := ⟨gb194, _, none⟩) NB188_194.out _).trans (hHeld.2.1)))))))))))))))))))))))), ((cell_far (p := ⟨gb194, _, none⟩) NB188_194.out _).trans (((cell_far (p := ⟨gb194, _, none⟩) NB188_194.out _).trans (((cell_far (p := ⟨gb194, _, none⟩) NB188_194.out _).trans (((cell_far (p := ⟨gb194, _, none⟩) NB188_194.out _).trans (((cell_far (p := ⟨gb194, _, none⟩) NB188_194.out _).trans (((cell_far (p := ⟨gb194, _, none⟩) NB188_194.out _).trans (((cell_far (p := ⟨gb194, _, none⟩) NB188_194.out _).trans (((cell_far (p := ⟨gb194, _, none⟩) NB188_194.out _).trans (((cell_far (p := ⟨gb194, _, none⟩) NB188_194.out _).trans (((cell_far (p := ⟨gb194, _, none⟩) NB188_194.out _).trans (((cell_far (p := ⟨gb194, _, none⟩) NB188_194.out _).trans (((cell_far (p := ⟨gb194, _, none⟩) NB188_194.out _).trans (hHeld.2.2.1)))))))))))))))))))))))), ((cell_far (p := ⟨gb194, _, none⟩) NB188_194.out _).trans (((cell_far (p := ⟨gb194, _, none⟩) NB188_194.out _).trans (((cell_far (p := ⟨gb194, _, none⟩) NB188_194.out _).trans (((cell_far (p := ⟨gb194, _, none⟩) NB188_194.out _).trans (((cell_far (p := ⟨gb194, _, none⟩) NB188_194.out _).trans (((cell_far (p := ⟨gb194, _, none⟩) NB188_194.out _).trans (((cell_far (p := ⟨gb194, _, none⟩) NB188_194.out _).trans (((cell_far (p := ⟨gb194, _, none⟩) NB188_194.out _).trans (((cell_far (p := ⟨gb194, _, none⟩) NB188_194.out _).trans (((cell_far (p := ⟨gb194, _, none⟩) NB188_194.out _).trans (((cell_far (p := ⟨gb194, _, none⟩) NB188_194.out _).trans (((cell_far (p := ⟨gb194, _, none⟩) NB188_194.out _).trans (hHeld.2.2.2.1)))))))))))))))))))))))), ((cell_far (p := ⟨gb194, _, none⟩) NB188_194.out _).trans (((cell_far (p := ⟨gb194, _, none⟩) NB188_194.out _).trans (((cell_far (p := ⟨gb194, _, none⟩) NB188_194.out _).trans (((cell_far (p := ⟨gb194, _, none⟩) NB188_194.out _).trans (((cell_far (p := ⟨gb194, _, none⟩) NB188_194.out _).trans (((cell_far (p := ⟨gb194, _, none⟩) NB188_194.out _).trans (((cell_far (p := ⟨gb194, _, none⟩) NB188_194.out _).trans (((cell_far (p := ⟨gb194, _, none⟩) NB188_194.out _).trans (((cell_far (p := ⟨gb194, _, none⟩) NB188_194.out _).trans (((cell_far (p := ⟨gb194, _, none⟩) NB188_194.out _).trans (((cell_far (p := ⟨gb194, _, none⟩) NB188_194.out _).trans (((cell_far (p := ⟨gb194, _, none⟩) NB188_194.out _).trans (hHeld.2.2.2.2.1)))))))))))))))))))))))), ((cell_far (p := ⟨gb194, _, none⟩) NB188_194.out _).trans (((cell_far (p := ⟨gb194, _, none⟩) NB188_194.out _).trans (((cell_far (p := ⟨gb194, _, none⟩) NB188_194.out _).trans (((cell_far (p := ⟨gb194, _, none⟩) NB188_194.out _).trans (((cell_far (p := ⟨gb194, _, none⟩) NB188_194.out _).trans (((cell_far (p := ⟨gb194, _, none⟩) NB188_194.out _).trans (((cell_far (p := ⟨gb194, _, none⟩) NB188_194.out _).trans (((cell_far (p := ⟨gb194, _, none⟩) NB188_194.out _).trans (((cell_far (p := ⟨gb194, _, none⟩) NB188_194.out _).trans (((cell_far (p := ⟨gb194, _, none⟩) NB188_194.out _).trans (((cell_far (p := ⟨gb194, _, none⟩) NB188_194.out _).trans (((cell_far (p := ⟨gb194, _, none⟩) NB188_194.out _).trans (hHeld.2.2.2.2.2.1)))))))))))))))))))))))), ((cell_far (p := ⟨gb194, _, none⟩) NB188_194.out _).trans (((cell_far (p := ⟨gb194, _, none⟩) NB188_194.out _).trans (((cell_far (p := ⟨gb194, _, none⟩) NB188_194.out _).trans (((cell_far (p := ⟨gb194, _, none⟩) NB188_194.out _).trans (((cell_far (p := ⟨gb194, _, none⟩) NB188_194.out _).trans (((cell_far (p := ⟨gb194, _, none⟩) NB188_194.out _).trans (((cell_far (p := ⟨gb194, _, none⟩) NB188_194.out _).trans (((cell_far (p := ⟨gb194, _, none⟩) NB188_194.out _).trans (((cell_far (p := ⟨gb194, _, none⟩) NB188_194.out _).trans (((cell_far (p := ⟨gb194, _, none⟩) NB188_194.out _).trans (((cell_far (p := ⟨gb194, _, none⟩) NB188_194.out _).trans (((cell_far (p := ⟨gb194, _, none⟩) NB188_194.out _).trans (hHeld.2.2.2.2.2.2.1)))))))))))))))))))))))), ((cell_far (p := ⟨gb194, _, none⟩) NB188_194.out _).trans (((cell_far (p := ⟨gb194, _, none⟩) NB188_194.out _).trans (((cell_far (p := ⟨gb194, _, none⟩) NB188_194.out _).trans (((cell_far (p := ⟨gb194, _, none⟩) NB188_194.out _).trans (((cell_far (p := ⟨gb194, _, none⟩) NB188_194.out _).trans (((cell_far (p := ⟨gb194, _, none⟩) NB188_194.out _).trans (((cell_far (p := ⟨gb194, _, none⟩) NB188_194.out _).trans (((cell_far (p := ⟨gb194, _, none⟩) NB188_194.out _).trans (((cell_far (p := ⟨gb194, _, none⟩) NB188_194.out _).trans (((cell_far (p := ⟨gb194, _, none⟩) NB188_194.out _).trans (((cell_far (p := ⟨gb194, _, none⟩) NB188_194.out _).trans (((cell_far (p := ⟨gb194, _, none⟩) NB188_194.out _).trans (hHeld.2.2.2.2.2.2.2.1)))))))))))))))))))))))), ((cell_far (p := ⟨gb194, _, none⟩) NB188_194.out _).trans (((cell_far (p := ⟨gb194, _, none⟩) NB188_194.out _).trans (((cell_far (p := ⟨gb194, _, none⟩) NB188_194.out _).trans (((cell_far (p := ⟨gb194, _, none⟩) NB188_194.out _).trans (((cell_far (p := ⟨gb194, _, none⟩) NB188_194.out _).trans (((cell_far (p := ⟨gb194, _, none⟩) NB188_194.out _).trans (((cell_far (p := ⟨gb194, _, none⟩) NB188_194.out _).trans (((cell_far (p := ⟨gb194, _, none⟩) NB188_194.out _).trans (((cell_far (p := ⟨gb194, _, none⟩) NB188_194.out _).trans (((cell_far (p := ⟨gb194, _, none⟩) NB188_194.out _).trans (((cell_far (p := ⟨gb194, _, none⟩) NB188_194.out _).trans (((cell_far (p := ⟨gb194, _, none⟩) NB188_194.out _).trans (hHeld.2.2.2.2.2.2.2.2.1)))))))))))))))))))))))), ((cell_far (p := ⟨gb194, _, none⟩) NB188_194.out _).trans (((cell_far (p := ⟨gb194, _, none⟩) NB188_194.out _).trans (((cell_far (p := ⟨gb194, _, none⟩) NB188_194.out _).trans (((cell_far (p := ⟨gb194, _, none⟩) NB188_194.out _).trans (((cell_far (p := ⟨gb194, _, none⟩) NB188_194.out _).trans (((cell_far (p := ⟨gb194, _, none⟩) NB188_194.out _).trans (((cell_far (p := ⟨gb194, _, none⟩) NB188_194.out _).trans (((cell_far (p := ⟨gb194, _, none⟩) NB188_194.out _).trans (((cell_far (p := ⟨gb194, _, none⟩) NB188_194.out _).trans (((cell_far (p := ⟨gb194, _, none⟩) NB188_194.out _).trans (((cell_far (p := ⟨gb194, _, none⟩) NB188_194.out _).trans (((cell_far (p := ⟨gb194, _, none⟩) NB188_194.out _).trans (hHeld.2.2.2.2.2.2.2.2.2.1)))))))))))))))))))))))), ((cell_far (p := ⟨gb194, _, none⟩) NB188_194.out _).trans (((cell_far (p := ⟨gb194, _, none⟩) NB188_194.out _).trans (((cell_far (p := ⟨gb194, _, none⟩) NB188_194.out _).trans (((cell_far (p := ⟨gb194, _, none⟩) NB188_194.out _).trans (((cell_far (p := ⟨gb194, _, none⟩) NB188_194.out _).trans (((cell_far (p := ⟨gb194, _, none⟩) NB188_194.out _).trans (((cell_far (p := ⟨gb194, _, none⟩) NB188_194.out _).trans (((cell_far (p := ⟨gb194, _, none⟩) NB188_194.out _).trans (((cell_far (p := ⟨gb194, _, none⟩) NB188_194.out _).trans (((cell_far (p := ⟨gb194, _, none⟩) NB188_194.out _).trans (((cell_far (p := ⟨gb194, _, none⟩) NB188_194.out _).trans (((cell_far (p := ⟨gb194, _, none⟩) NB188_194.out _).trans (hHeld.2.2.2.2.2.2.2.2.2.2.1)))))))))))))))))))))))), ((cell_far (p := ⟨gb194, _, none⟩) NB188_194.out _).trans (((cell_far (p := ⟨gb194, _, none⟩) NB188_194.out _).trans (((cell_far (p := ⟨gb194, _, none⟩) NB188_194.out _).trans (((cell_far (p := ⟨gb194, _, none⟩) NB188_194.out _).trans (((cell_far (p := ⟨gb194, _, none⟩) NB188_194.out _).trans (((cell_far (p := ⟨gb194, _, none⟩) NB188_194.out _).trans (((cell_far (p := ⟨gb194, _, none⟩) NB188_194.out _).trans (((cell_far (p := ⟨gb194, _, none⟩) NB188_194.out _).trans (((cell_far (p := ⟨gb194, _, none⟩) NB188_194.out _).trans (((cell_far (p := ⟨gb194, _, none⟩) NB188_194.out _).trans (((cell_far (p := ⟨gb194, _, none⟩) NB188_194.out _).trans (((cell_far (p := ⟨gb194, _, none⟩) NB188_194.out _).trans (hHeld.2.2.2.2.2.2.2.2.2.2.2.1)))))))))))))))))))))))), ((cell_far (p := ⟨gb194, _, none⟩) NB188_194.out _).trans (((cell_far (p := ⟨gb194, _, none⟩) NB188_194.out _).trans (((cell_far (p := ⟨gb194, _, none⟩) NB188_194.out _).trans (((cell_far (p := ⟨gb194, _, none⟩) NB188_194.out _).trans (((cell_far (p := ⟨gb194, _, none⟩) NB188_194.out _).trans (((cell_far (p := ⟨gb194, _, none⟩) NB188_194.out _).trans (((cell_far (p := ⟨gb194, _, none⟩) NB188_194.out _).trans (((cell_far (p := ⟨gb194, _, none⟩) NB188_194.out _).trans (((cell_far (p := ⟨gb194, _, none⟩) NB188_194.out _).trans (((cell_far (p := ⟨gb194, _, none⟩) NB188_194.out _).trans (((cell_far (p := ⟨gb194, _, none⟩) NB188_194.out _).trans (((cell_far (p := ⟨gb194, _, none⟩) NB188_194.out _).trans (hHeld.2.2.2.2.2.2.2.2.2.2.2.2.1)))))))))))))))))))))))), ((cell_far (p := ⟨gb194, _, none⟩) NB181_194.out _).trans (((cell_far (p := ⟨gb194, _, none⟩) NB181_194.out _).trans (((cell_far (p := ⟨gb194, _, none⟩) NB181_194.out _).trans (((cell_far (p := ⟨gb194, _, none⟩) NB181_194.out _).trans (((cell_far (p := ⟨gb194, _, none⟩) NB181_194.out _).trans (((cell_far (p := ⟨gb194, _, none⟩) NB181_194.out _).trans (((cell_far (p := ⟨gb194, _, none⟩) NB181_194.out _).trans (((cell_far (p := ⟨gb194, _, none⟩) NB181_194.out _).trans (((cell_far (p := ⟨gb194, _, none⟩) NB181_194.out _).trans (((cell_far (p := ⟨gb194, _, none⟩) NB181_194.out _).trans (((cell_far (p := ⟨gb194, _, none⟩) NB181_194.out _).trans (((cell_far (p := ⟨gb194, _, none⟩) NB181_194.out _).trans (hHeld.2.2.2.2.2.2.2.2.2.2.2.2.2.1)))))))))))))))))))))))), ((cell_far (p := ⟨gb194, _, none⟩) NB181_194.out _).trans (((cell_far (p := ⟨gb194, _, none⟩) NB181_194.out _).trans (((cell_far (p := ⟨gb194, _, none⟩) NB181_194.out _).trans (((cell_far (p := ⟨gb194, _, none⟩) NB181_194.out _).trans (((cell_far (p := ⟨gb194, _, none⟩) NB181_194.out _).trans (((cell_far (p := ⟨gb194, _, none⟩) NB181_194.out _).trans (((cell_far (p := ⟨gb194, _, none⟩) NB181_194.out _).trans (((cell_far (p := ⟨gb194, _, none⟩) NB181_194.out _).trans (((cell_far (p := ⟨gb194, _, none⟩) NB181_194.out _).trans (((cell_far (p := ⟨gb194, _, none⟩) NB181_194.out _).trans (((cell_far (p := ⟨gb194, _, none⟩) NB181_194.out _).trans (((cell_far (p := ⟨gb194, _, none⟩) NB181_194.out _).trans (hHeld.2.2.2.2.2.2.2.2.2.2.2.2.2.2))))))))))))))))))))))))⟩ (fun hHeld => ?_)
      clear hK K
      refine done_ (done_of HT_.out (by kernel_rfl)) ?_
      have hnb45 := NB188_194.out
      have hnc45 := NB194_188.out
      obtain ⟨hcz46_0, hcz46_1, hcz46_2, hcz46_3, hcz46_4, hcz46_5, hcz46_6, hcz46_7, hcz46_8, hcz46_9, hcz46_10, hcz46_11, hcz46_12⟩ := bc13 BK188.out
      obtain ⟨hfz46_0, hfz46_1, hfz46_2, hfz46_3, hfz46_4, hfz46_5, hfz46_6, hfz46_7, hfz46_8, hfz46_9, hfz46_10, hfz46_11, hfz46_12⟩ := bf13 BK188.out
      go_upto_if 42 with (fail)
      go_cut [] (fun wc => ∃ (kq : Nat) (x195007_18 : Int) (x195008_18 : Int) (x195009_18 : Int) (x195010_18 : Int) (x195011_18 : Int), Aside0 (signalbenchref44_Compile.j1 kq x7_1 x8_1 a0_0 l0_1 l1_0 l1_1 ((rd_T64 l0_1 x8_1).f0.f0) ((rd_T64 l0_1 x8_1).f0.f1) ((rd_T64 l0_1 x8_1).f0.f2) ((rd_T64 l0_1 x8_1).f0.f3) ((rd_T64 l0_1 x8_1).f0.f4) ((rd_T64 l0_1 x8_1).f1) ((rd_T64 l0_1 x8_1).f2) ((rd_T64 l0_1 x8_1).f3) ((rd_T64 l0_1 x8_1).f4.f0) ((rd_T64 l0_1 x8_1).f4.f1) ((rd_T64 l0_1 x8_1).f4.f2) ((rd_T64 l0_1 x8_1).f4.f3) ((rd_T64 l0_1 x8_1).f4.f4) t189 t190 t191 t192 t193 ((rd_T64 l0_1 x8_1).f2) ((rd_T64 l0_1 x8_1).f3) x195007_18 x195008_18 x195009_18 x195010_18 x195011_18 = some (r1, r2)) ∧ Aside0 (kq ≤ k1) ∧ Aside0 (Kd.R k50 50 wc w.heap.size (fun k_ => k_ ≠ gb194) u7 x7_1) ∧ Aside0 (wc.heap[gb180]? = some (.cells #[.string a0_0, (.slice (some ad187) l0_1.length c0_1)] 24 (0, 0))) ∧ Aside0 (wc.heap[gb181]? = some (.cells #[(.slice A1_0 l1_0.length c1_0), (.slice A1_1 l1_1.length c1_1)] 28 (0, 0))) ∧ Aside0 (wc.heap[gb182]? = some (.cells #[(.slice none 0 0)] 31 (0, 0))) ∧ Aside0 (wc.heap[gb188]? = some (.cells #[.string ((rd_T64 l0_1 x8_1).f0.f0), .int .i64 ((rd_T64 l0_1 x8_1).f0.f1), .int .i64 ((rd_T64 l0_1 x8_1).f0.f2), .int .i64 ((rd_T64 l0_1 x8_1).f0.f3), .int .i64 ((rd_T64 l0_1 x8_1).f0.f4), .int .i64 ((rd_T64 l0_1 x8_1).f1), .int .i64 ((rd_T64 l0_1 x8_1).f2), .bool ((rd_T64 l0_1 x8_1).f3), .string ((rd_T64 l0_1 x8_1).f4.f0), .int .i64 ((rd_T64 l0_1 x8_1).f4.f1), .int .i64 ((rd_T64 l0_1 x8_1).f4.f2), .int .i64 ((rd_T64 l0_1 x8_1).f4.f3), .int .i64 ((rd_T64 l0_1 x8_1).f4.f4)] 64 (0, 0))) ∧ Aside0 (wc.heap[gb194]? = some (.cells #[.int .i64 t189, .int .i64 t190, .int .i64 t191, .int .i64 t192, .int .i64 t193, .int .i64 ((rd_T64 l0_1 x8_1).f2), .bool ((rd_T64 l0_1 x8_1).f3), .int .i64 x195007_18, .int .i64 x195008_18, .int .i64 x195009_18, .int .i64 x195010_18, .int .i64 x195011_18] 50 (0, 0))) ∧ Aside0 (Below w.heap.size w wc))
      case first =>
       have H := HC19.out
       clear HC19
       obtain ⟨bq47, hbq47⟩ : ∃ b_ : Bool, b_ = ((rd_T64 l0_1 x8_1).f3) := ⟨_, rfl⟩
       replace H : (if bq47 = true then ((signalbenchref44_compiled.f k1 ((rd_T64 l0_1 x8_1).f4.f0) ((rd_T64 l0_1 x8_1).f4.f1) ((rd_T64 l0_1 x8_1).f4.f2) ((rd_T64 l0_1 x8_1).f4.f3) ((rd_T64 l0_1 x8_1).f4.f4) l1_0 l1_1).bind fun bt195 => (signalbenchref44_Compile.j1 k1 x7_1 x8_1 a0_0 l0_1 l1_0 l1_1 ((rd_T64 l0_1 x8_1).f0.f0) ((rd_T64 l0_1 x8_1).f0.f1) ((rd_T64 l0_1 x8_1).f0.f2) ((rd_T64 l0_1 x8_1).f0.f3) ((rd_T64 l0_1 x8_1).f0.f4) ((rd_T64 l0_1 x8_1).f1) ((rd_T64 l0_1 x8_1).f2) bq47 ((rd_T64 l0_1 x8_1).f4.f0) ((rd_T64 l0_1 x8_1).f4.f1) ((rd_T64 l0_1 x8_1).f4.f2) ((rd_T64 l0_1 x8_1).f4.f3) ((rd_T64 l0_1 x8_1).f4.f4) t189 t190 t191 t192 t193 ((rd_T64 l0_1 x8_1).f2) bq47 bt195.1 bt195.2.1 bt195.2.2.1 bt195.2.2.2.1 bt195.2.2.2.2)) else (signalbenchref44_Compile.j1 k1 x7_1 x8_1 a0_0 l0_1 l1_0 l1_1 ((rd_T64 l0_1 x8_1).f0.f0) ((rd_T64 l0_1 x8_1).f0.f1) ((rd_T64 l0_1 x8_1).f0.f2) ((rd_T64 l0_1 x8_1).f0.f3) ((rd_T64 l0_1 x8_1).f0.f4) ((rd_T64 l0_1 x8_1).f1) ((rd_T64 l0_1 x8_1).f2) bq47 ((rd_T64 l0_1 x8_1).f4.f0) ((rd_T64 l0_1 x8_1).f4.f1) ((rd_T64 l0_1 x8_1).f4.f2) ((rd_T64 l0_1 x8_1).f4.f3) ((rd_T64 l0_1 x8_1).f4.f4) t189 t190 t191 t192 t193 ((rd_T64 l0_1 x8_1).f2) bq47 0 0 0 0 0)) = some (r1, r2) := by rw [← hbq47] at H; exact H
       have Nbq47 := Aside0.mk hbq47
       clear hbq47
       (try rw [← Nbq47.out])
       by_cases c48 : bq47 = true
       ·
        subst c48
        (try rw [← Nbq47.out] at BK180)
        (try rw [← Nbq47.out] at BK181)
        (try rw [← Nbq47.out] at BK182)
        (try rw [← Nbq47.out] at BK188)
        (try rw [← Nbq47.out] at BK194)
        have H1 : ((signalbenchref44_compiled.f k1 ((rd_T64 l0_1 x8_1).f4.f0) ((rd_T64 l0_1 x8_1).f4.f1) ((rd_T64 l0_1 x8_1).f4.f2) ((rd_T64 l0_1 x8_1).f4.f3) ((rd_T64 l0_1 x8_1).f4.f4) l1_0 l1_1).bind fun bt195 => (signalbenchref44_Compile.j1 k1 x7_1 x8_1 a0_0 l0_1 l1_0 l1_1 ((rd_T64 l0_1 x8_1).f0.f0) ((rd_T64 l0_1 x8_1).f0.f1) ((rd_T64 l0_1 x8_1).f0.f2) ((rd_T64 l0_1 x8_1).f0.f3) ((rd_T64 l0_1 x8_1).f0.f4) ((rd_T64 l0_1 x8_1).f1) ((rd_T64 l0_1 x8_1).f2) true ((rd_T64 l0_1 x8_1).f4.f0) ((rd_T64 l0_1 x8_1).f4.f1) ((rd_T64 l0_1 x8_1).f4.f2) ((rd_T64 l0_1 x8_1).f4.f3) ((rd_T64 l0_1 x8_1).f4.f4) t189 t190 t191 t192 t193 ((rd_T64 l0_1 x8_1).f2) true bt195.1 bt195.2.1 bt195.2.2.1 bt195.2.2.2.1 bt195.2.2.2.2)) = some (r1, r2) := by rw [if_pos rfl] at H; exact H
        clear H
        have H := H1
        clear H1
        replace H := Option.bind_eq_some_iff.mp H
        obtain ⟨⟨t195, t196, t197, t198, t199⟩, A490, H⟩ := H
        replace H : (signalbenchref44_Compile.j1 k1 x7_1 x8_1 a0_0 l0_1 l1_0 l1_1 ((rd_T64 l0_1 x8_1).f0.f0) ((rd_T64 l0_1 x8_1).f0.f1) ((rd_T64 l0_1 x8_1).f0.f2) ((rd_T64 l0_1 x8_1).f0.f3) ((rd_T64 l0_1 x8_1).f0.f4) ((rd_T64 l0_1 x8_1).f1) ((rd_T64 l0_1 x8_1).f2) true ((rd_T64 l0_1 x8_1).f4.f0) ((rd_T64 l0_1 x8_1).f4.f1) ((rd_T64 l0_1 x8_1).f4.f2) ((rd_T64 l0_1 x8_1).f4.f3) ((rd_T64 l0_1 x8_1).f4.f4) t189 t190 t191 t192 t193 ((rd_T64 l0_1 x8_1).f2) true t195 t196 t197 t198 t199) = some (r1, r2) := H
        have A49 := Aside0.mk A490
        clear A490
        have H' := Aside0.mk H
        clear H
        have hnb50 := NB188_180.out
        have hnc50 := NB180_188.out
        have hnb51 := NB188_181.out
        have hnc51 := NB181_188.out
        have hnb52 := NB188_182.out
        have hnc52 := NB182_188.out
        have hnb53 := NB188_194.out
        have hnc53 := NB194_188.out
        have hcz54_0 : w32.cell? ⟨gb188, 0, none⟩ = some (.string ((rd_T64 l0_1 x8_1).f0.f0)) := (blk_cell BK188.out 0).trans rfl
        have hcz54_1 : w32.cell? ⟨gb188, 1, none⟩ = some (.int .i64 ((rd_T64 l0_1 x8_1).f0.f1)) := (blk_cell BK188.out 1).trans rfl
        have hcz54_2 : w32.cell? ⟨gb188, 2, none⟩ = some (.int .i64 ((rd_T64 l0_1 x8_1).f0.f2)) := (blk_cell BK188.out 2).trans rfl
        have hcz54_3 : w32.cell? ⟨gb188, 3, none⟩ = some (.int .i64 ((rd_T64 l0_1 x8_1).f0.f3)) := (blk_cell BK188.out 3).trans rfl
        have hcz54_4 : w32.cell? ⟨gb188, 4, none⟩ = some (.int .i64 ((rd_T64 l0_1 x8_1).f0.f4)) := (blk_cell BK188.out 4).trans rfl
        have hcz54_5 : w32.cell? ⟨gb188, 5, none⟩ = some (.int .i64 ((rd_T64 l0_1 x8_1).f1)) := (blk_cell BK188.out 5).trans rfl
        have hcz54_6 : w32.cell? ⟨gb188, 6, none⟩ = some (.int .i64 ((rd_T64 l0_1 x8_1).f2)) := (blk_cell BK188.out 6).trans rfl
        have hcz54_7 : w32.cell? ⟨gb188, 7, none⟩ = some (.bool true) := (blk_cell BK188.out 7).trans (by first | (rw [← Nbq47.out]; rfl) | rfl)
        have hcz54_8 : w32.cell? ⟨gb188, 8, none⟩ = some (.string ((rd_T64 l0_1 x8_1).f4.f0)) := (blk_cell BK188.out 8).trans rfl
        have hcz54_9 : w32.cell? ⟨gb188, 9, none⟩ = some (.int .i64 ((rd_T64 l0_1 x8_1).f4.f1)) := (blk_cell BK188.out 9).trans rfl
        have hcz54_10 : w32.cell? ⟨gb188, 10, none⟩ = some (.int .i64 ((rd_T64 l0_1 x8_1).f4.f2)) := (blk_cell BK188.out 10).trans rfl
        have hcz54_11 : w32.cell? ⟨gb188, 11, none⟩ = some (.int .i64 ((rd_T64 l0_1 x8_1).f4.f3)) := (blk_cell BK188.out 11).trans rfl
        have hcz54_12 : w32.cell? ⟨gb188, 12, none⟩ = some (.int .i64 ((rd_T64 l0_1 x8_1).f4.f4)) := (blk_cell BK188.out 12).trans rfl
        obtain ⟨hfz54_0, hfz54_1, hfz54_2, hfz54_3, hfz54_4, hfz54_5, hfz54_6, hfz54_7, hfz54_8, hfz54_9, hfz54_10, hfz54_11, hfz54_12⟩ := bf13 BK188.out
        have hnb55 := NB181_180.out
        have hnc55 := NB180_181.out
        have hnb56 := NB181_182.out
        have hnc56 := NB182_181.out
        have hnb57 := NB181_194.out
        have hnc57 := NB194_181.out
        obtain ⟨hcz58_0, hcz58_1⟩ := bc2 BK181.out
        obtain ⟨hfz58_0, hfz58_1⟩ := bf2 BK181.out
        go_wp2_with (first | ((with_reducible refine gate_callee (f := 41) rfl ?_); refine goesL_ (some 46) rfl rfl Try.func41 (by kernel_rfl) rfl #[.agg #[.string ((rd_T64 l0_1 x8_1).f4.f0), .int .i64 ((rd_T64 l0_1 x8_1).f4.f1), .int .i64 ((rd_T64 l0_1 x8_1).f4.f2), .int .i64 ((rd_T64 l0_1 x8_1).f4.f3), .int .i64 ((rd_T64 l0_1 x8_1).f4.f4)], .agg #[.slice A1_0 l1_0.length c1_0, .slice A1_1 l1_1.length c1_1]] rfl (by (try simp only [List.map_toArray, List.map_cons, List.map_nil]); first | done | rfl | (simp only [List.length_drop, List.length_take]; rfl)) ?_; (with_reducible refine (signalbenchref44_compiled.calls k1 ((rd_T64 l0_1 x8_1).f4.f0) ((rd_T64 l0_1 x8_1).f4.f1) ((rd_T64 l0_1 x8_1).f4.f2) ((rd_T64 l0_1 x8_1).f4.f3) ((rd_T64 l0_1 x8_1).f4.f4) _ _ l1_0 _ _ l1_1 t195 t196 t197 t198 t199 _ ?side1 ?side2 ?side3 ?side4 A49.out).mono ?_); (case side1 => exact Kd.C_below HR1_0.out (bs HB.out)); (case side2 => exact HC1_0.out); (case side3 => exact Kd.C_below HR1_1.out (bs HB.out)); (case side4 => exact HC1_1.out); rintro e w59 ⟨rfl, hb⟩; refine ⟨_, rfl, ?_⟩; have n0_ := Aside0.mk (Kd.R_below (by (with_reducible repeat (first | apply Kd.R_alloc | apply Kd.R_drewN | apply Kd.R_drew)); exact (Kd.R_mono (Kd.R_far (p := ⟨gb194, 11, none⟩) (Kd.R_far (p := ⟨gb194, 10, none⟩) (Kd.R_far (p := ⟨gb194, 9, none⟩) (Kd.R_far (p := ⟨gb194, 8, none⟩) (Kd.R_far (p := ⟨gb194, 7, none⟩) (Kd.R_far (p := ⟨gb194, 6, none⟩) (Kd.R_far (p := ⟨gb194, 5, none⟩) (Kd.R_far (p := ⟨gb194, 4, none⟩) (Kd.R_far (p := ⟨gb194, 3, none⟩) (Kd.R_far (p := ⟨gb194, 2, none⟩) (Kd.R_far (p := ⟨gb194, 1, none⟩) (Kd.R_far (p := ⟨gb194, 0, none⟩) (Kd.R_mono HO_7.out (fun k_ hk => (⟨hk, hk⟩ : _ ∧ k_ ≠ gb194))) (fun _ hk => hk.2) (.int .i64 t189)) (fun _ hk => hk.2) (.int .i64 t190)) (fun _ hk => hk.2) (.int .i64 t191)) (fun _ hk => hk.2) (.int .i64 t192)) (fun _ hk => hk.2) (.int .i64 t193)) (fun _ hk => hk.2) (.int .i64 ((rd_T64 l0_1 x8_1).f2))) (fun _ hk => hk.2) (.bool (true))) (fun _ hk => hk.2) (.int .i64 0)) (fun _ hk => hk.2) (.int .i64 0)) (fun _ hk => hk.2) (.int .i64 0)) (fun _ hk => hk.2) (.int .i64 0)) (fun _ hk => hk.2) (.int .i64 0)) (fun _ h_ => h_.1))) hb); have n1_ := Aside0.mk (blk_below (g := gb180) (o := .cells #[.string a0_0, .slice (some ad187) l0_1.length c0_1] 24 (0, 0)) (by (iterate 12 (with_reducible repeat (first | refine blk_drewN ?_ _ | refine blk_drew ?_ | refine blk_alloc ?_ _)); refine blk_far ?_ NB180_194.out _); exact bg BK180.out) hb); have n2_ := Aside0.mk (blk_below (g := gb181) (o := .cells #[.slice A1_0 l1_0.length c1_0, .slice A1_1 l1_1.length c1_1] 28 (0, 0)) (by (iterate 12 (with_reducible repeat (first | refine blk_drewN ?_ _ | refine blk_drew ?_ | refine blk_alloc ?_ _)); refine blk_far ?_ NB181_194.out _); exact bg BK181.out) hb); have n3_ := Aside0.mk (blk_below (g := gb182) (o := .cells #[.slice none 0 0] 31 (0, 0)) (by (iterate 12 (with_reducible repeat (first | refine blk_drewN ?_ _ | refine blk_drew ?_ | refine blk_alloc ?_ _)); refine blk_far ?_ NB182_194.out _); exact bg BK182.out) hb); have n4_ := Aside0.mk (blk_below (g := gb188) (o := .cells #[.string ((rd_T64 l0_1 x8_1).f0.f0), .int .i64 ((rd_T64 l0_1 x8_1).f0.f1), .int .i64 ((rd_T64 l0_1 x8_1).f0.f2), .int .i64 ((rd_T64 l0_1 x8_1).f0.f3), .int .i64 ((rd_T64 l0_1 x8_1).f0.f4), .int .i64 ((rd_T64 l0_1 x8_1).f1), .int .i64 ((rd_T64 l0_1 x8_1).f2), .bool true, .string ((rd_T64 l0_1 x8_1).f4.f0), .int .i64 ((rd_T64 l0_1 x8_1).f4.f1), .int .i64 ((rd_T64 l0_1 x8_1).f4.f2), .int .i64 ((rd_T64 l0_1 x8_1).f4.f3), .int .i64 ((rd_T64 l0_1 x8_1).f4.f4)] 64 (0, 0)) (by (iterate 12 (with_reducible repeat (first | refine blk_drewN ?_ _ | refine blk_drew ?_ | refine blk_alloc ?_ _)); refine blk_far ?_ NB188_194.out _); exact bg BK188.out) hb); have n5_ := Aside0.mk (blk_below (g := gb194) (o := .cells #[.int .i64 t189, .int .i64 t190, .int .i64 t191, .int .i64 t192, .int .i64 t193, .int .i64 ((rd_T64 l0_1 x8_1).f2), .bool true, .int .i64 0, .int .i64 0, .int .i64 0, .int .i64 0, .int .i64 0] 50 (0, 0)) (by exact pt12 (bg BK194.out)) hb); have n6_ := Aside0.mk (below_step (bs HB.out) hb); clear HO_7; clear BK180; clear BK181; clear BK182; clear BK188; clear BK194; clear HB; have HO_7 := n0_; have BK180 := n1_; have BK181 := n2_; have BK182 := n3_; have BK188 := n4_; have BK194 := n5_; have HB := n6_; clear n0_ n1_ n2_ n3_ n4_ n5_ n6_; (try clear hb); (try clear hb2); (try clear hk); (try clear hi); have hnb60 := NB194_180.out; have hnc60 := NB180_194.out; have hnb61 := NB194_182.out; have hnc61 := NB182_194.out; obtain ⟨hcz62_0, hcz62_1, hcz62_2, hcz62_3, hcz62_4, hcz62_5, hcz62_6, hcz62_7, hcz62_8, hcz62_9, hcz62_10, hcz62_11⟩ := bc12 BK194.out; obtain ⟨hfz62_0, hfz62_1, hfz62_2, hfz62_3, hfz62_4, hfz62_5, hfz62_6, hfz62_7, hfz62_8, hfz62_9, hfz62_10, hfz62_11⟩ := bf12 BK194.out))
        go_meet
        case rel => (try rw [Nbq47.out] at H'); (try rw [Nbq47.out] at BK180); (try rw [Nbq47.out] at BK181); (try rw [Nbq47.out] at BK182); (try rw [Nbq47.out] at BK188); (try rw [Nbq47.out] at BK194); exact ⟨_, (t195), (t196), (t197), (t198), (t199), H', ⟨by have := HK1.out; first | omega | exact Nat.le_refl _⟩, ⟨by (with_reducible repeat (first | apply Kd.R_alloc | apply Kd.R_drewN | apply Kd.R_drew)); exact Kd.R_mono (Kd.R_far (p := ⟨gb194, 11, none⟩) (Kd.R_far (p := ⟨gb194, 10, none⟩) (Kd.R_far (p := ⟨gb194, 9, none⟩) (Kd.R_far (p := ⟨gb194, 8, none⟩) (Kd.R_far (p := ⟨gb194, 7, none⟩) (Kd.R_mono HO_7.out (fun k_ hk => (⟨hk, hk⟩ : _ ∧ k_ ≠ gb194))) (fun _ hk => hk.2) (.int .i64 t195)) (fun _ hk => hk.2) (.int .i64 t196)) (fun _ hk => hk.2) (.int .i64 t197)) (fun _ hk => hk.2) (.int .i64 t198)) (fun _ hk => hk.2) (.int .i64 t199)) (fun _ hk => hk.1)⟩, ⟨by (iterate 5 (with_reducible repeat (first | refine blk_drewN ?_ _ | refine blk_drew ?_ | refine blk_alloc ?_ _)); refine blk_far ?_ NB180_194.out _); exact bg BK180.out⟩, ⟨by (iterate 5 (with_reducible repeat (first | refine blk_drewN ?_ _ | refine blk_drew ?_ | refine blk_alloc ?_ _)); refine blk_far ?_ NB181_194.out _); exact bg BK181.out⟩, ⟨by (iterate 5 (with_reducible repeat (first | refine blk_drewN ?_ _ | refine blk_drew ?_ | refine blk_alloc ?_ _)); refine blk_far ?_ NB182_194.out _); exact bg BK182.out⟩, ⟨by (iterate 5 (with_reducible repeat (first | refine blk_drewN ?_ _ | refine blk_drew ?_ | refine blk_alloc ?_ _)); refine blk_far ?_ NB188_194.out _); exact bg BK188.out⟩, ⟨by (with_reducible repeat (first | refine blk_drewN ?_ _ | refine blk_drew ?_ | refine blk_alloc ?_ _)); refine blk_put (cs := #[.int .i64 t189, .int .i64 t190, .int .i64 t191, .int .i64 t192, .int .i64 t193, .int .i64 ((rd_T64 l0_1 x8_1).f2), .bool ((rd_T64 l0_1 x8_1).f3), .int .i64 t195, .int .i64 t196, .int .i64 t197, .int .i64 t198, .int .i64 0]) ?_ 11 _ rfl; (with_reducible repeat (first | refine blk_drewN ?_ _ | refine blk_drew ?_ | refine blk_alloc ?_ _)); refine blk_put (cs := #[.int .i64 t189, .int .i64 t190, .int .i64 t191, .int .i64 t192, .int .i64 t193, .int .i64 ((rd_T64 l0_1 x8_1).f2), .bool ((rd_T64 l0_1 x8_1).f3), .int .i64 t195, .int .i64 t196, .int .i64 t197, .int .i64 0, .int .i64 0]) ?_ 10 _ rfl; (with_reducible repeat (first | refine blk_drewN ?_ _ | refine blk_drew ?_ | refine blk_alloc ?_ _)); refine blk_put (cs := #[.int .i64 t189, .int .i64 t190, .int .i64 t191, .int .i64 t192, .int .i64 t193, .int .i64 ((rd_T64 l0_1 x8_1).f2), .bool ((rd_T64 l0_1 x8_1).f3), .int .i64 t195, .int .i64 t196, .int .i64 0, .int .i64 0, .int .i64 0]) ?_ 9 _ rfl; (with_reducible repeat (first | refine blk_drewN ?_ _ | refine blk_drew ?_ | refine blk_alloc ?_ _)); refine blk_put (cs := #[.int .i64 t189, .int .i64 t190, .int .i64 t191, .int .i64 t192, .int .i64 t193, .int .i64 ((rd_T64 l0_1 x8_1).f2), .bool ((rd_T64 l0_1 x8_1).f3), .int .i64 t195, .int .i64 0, .int .i64 0, .int .i64 0, .int .i64 0]) ?_ 8 _ rfl; (with_reducible repeat (first | refine blk_drewN ?_ _ | refine blk_drew ?_ | refine blk_alloc ?_ _)); refine blk_put (cs := #[.int .i64 t189, .int .i64 t190, .int .i64 t191, .int .i64 t192, .int .i64 t193, .int .i64 ((rd_T64 l0_1 x8_1).f2), .bool ((rd_T64 l0_1 x8_1).f3), .int .i64 0, .int .i64 0, .int .i64 0, .int .i64 0, .int .i64 0]) ?_ 7 _ rfl; exact bg BK194.out⟩, ⟨bs HB.out⟩⟩
       ·
        replace c48 := Bool.eq_false_iff.mpr c48
        subst c48
        have H1 : (signalbenchref44_Compile.j1 k1 x7_1 x8_1 a0_0 l0_1 l1_0 l1_1 ((rd_T64 l0_1 x8_1).f0.f0) ((rd_T64 l0_1 x8_1).f0.f1) ((rd_T64 l0_1 x8_1).f0.f2) ((rd_T64 l0_1 x8_1).f0.f3) ((rd_T64 l0_1 x8_1).f0.f4) ((rd_T64 l0_1 x8_1).f1) ((rd_T64 l0_1 x8_1).f2) false ((rd_T64 l0_1 x8_1).f4.f0) ((rd_T64 l0_1 x8_1).f4.f1) ((rd_T64 l0_1 x8_1).f4.f2) ((rd_T64 l0_1 x8_1).f4.f3) ((rd_T64 l0_1 x8_1).f4.f4) t189 t190 t191 t192 t193 ((rd_T64 l0_1 x8_1).f2) false 0 0 0 0 0) = some (r1, r2) := by rw [if_neg (show ¬ (false = true) by decide)] at H; exact H
        clear H
        have H := H1
        clear H1
        have H' := Aside0.mk H
        clear H
        go_wp2
        go_meet
        case rel => (try rw [Nbq47.out] at H'); exact ⟨_, (0), (0), (0), (0), (0), H', ⟨by have := HK1.out; first | omega | exact Nat.le_refl _⟩, ⟨by (with_reducible repeat (first | apply Kd.R_alloc | apply Kd.R_drewN | apply Kd.R_drew)); exact Kd.R_mono (Kd.R_far (p := ⟨gb194, 11, none⟩) (Kd.R_far (p := ⟨gb194, 10, none⟩) (Kd.R_far (p := ⟨gb194, 9, none⟩) (Kd.R_far (p := ⟨gb194, 8, none⟩) (Kd.R_far (p := ⟨gb194, 7, none⟩) (Kd.R_far (p := ⟨gb194, 6, none⟩) (Kd.R_far (p := ⟨gb194, 5, none⟩) (Kd.R_far (p := ⟨gb194, 4, none⟩) (Kd.R_far (p := ⟨gb194, 3, none⟩) (Kd.R_far (p := ⟨gb194, 2, none⟩) (Kd.R_far (p := ⟨gb194, 1, none⟩) (Kd.R_far (p := ⟨gb194, 0, none⟩) (Kd.R_mono HO_7.out (fun k_ hk => (⟨hk, hk⟩ : _ ∧ k_ ≠ gb194))) (fun _ hk => hk.2) (.int .i64 t189)) (fun _ hk => hk.2) (.int .i64 t190)) (fun _ hk => hk.2) (.int .i64 t191)) (fun _ hk => hk.2) (.int .i64 t192)) (fun _ hk => hk.2) (.int .i64 t193)) (fun _ hk => hk.2) (.int .i64 ((rd_T64 l0_1 x8_1).f2))) (fun _ hk => hk.2) (.bool (false))) (fun _ hk => hk.2) (.int .i64 0)) (fun _ hk => hk.2) (.int .i64 0)) (fun _ hk => hk.2) (.int .i64 0)) (fun _ hk => hk.2) (.int .i64 0)) (fun _ hk => hk.2) (.int .i64 0)) (fun _ hk => hk.1)⟩, ⟨by (iterate 12 (with_reducible repeat (first | refine blk_drewN ?_ _ | refine blk_drew ?_ | refine blk_alloc ?_ _)); refine blk_far ?_ NB180_194.out _); exact bg BK180.out⟩, ⟨by (iterate 12 (with_reducible repeat (first | refine blk_drewN ?_ _ | refine blk_drew ?_ | refine blk_alloc ?_ _)); refine blk_far ?_ NB181_194.out _); exact bg BK181.out⟩, ⟨by (iterate 12 (with_reducible repeat (first | refine blk_drewN ?_ _ | refine blk_drew ?_ | refine blk_alloc ?_ _)); refine blk_far ?_ NB182_194.out _); exact bg BK182.out⟩, ⟨by (iterate 12 (with_reducible repeat (first | refine blk_drewN ?_ _ | refine blk_drew ?_ | refine blk_alloc ?_ _)); refine blk_far ?_ NB188_194.out _); exact bg BK188.out⟩, ⟨by (try rw [← Nbq47.out]); exact pt12 (bg BK194.out)⟩, ⟨bs HB.out⟩⟩
      case rest =>
       clear HC19
       try clear c1
       try clear p1
       try clear q1
       try clear hx1
       try clear c2
       try clear p2
       try clear c4
       try clear q4
       try clear c5
       try clear c6
       try clear p18
       try clear q18
       try clear hx18
       try clear c24
       try clear c25
       try clear c26
       try clear c41
       try clear c45
       try clear q47
       try clear c48
       try clear c50
       try clear c51
       try clear c52
       try clear c53
       try clear c55
       try clear c56
       try clear c57
       try clear c60
       try clear c61
       try clear hcz27_0 hcz27_1 hcz27_10 hcz27_11 hcz27_12 hcz27_2 hcz27_3 hcz27_4 hcz27_5 hcz27_6 hcz27_7 hcz27_8 hcz27_9
       try clear hcz46_0 hcz46_1 hcz46_10 hcz46_11 hcz46_12 hcz46_2 hcz46_3 hcz46_4 hcz46_5 hcz46_6 hcz46_7 hcz46_8 hcz46_9
       try clear hcz54_0 hcz54_1 hcz54_10 hcz54_11 hcz54_12 hcz54_2 hcz54_3 hcz54_4 hcz54_5 hcz54_6 hcz54_7 hcz54_8 hcz54_9
       try clear hcz58_0 hcz58_1
       try clear hcz62_0 hcz62_1 hcz62_10 hcz62_11 hcz62_2 hcz62_3 hcz62_4 hcz62_5 hcz62_6 hcz62_7 hcz62_8 hcz62_9
       try clear hfz27_0 hfz27_1 hfz27_10 hfz27_11 hfz27_12 hfz27_2 hfz27_3 hfz27_4 hfz27_5 hfz27_6 hfz27_7 hfz27_8 hfz27_9
       try clear hfz46_0 hfz46_1 hfz46_10 hfz46_11 hfz46_12 hfz46_2 hfz46_3 hfz46_4 hfz46_5 hfz46_6 hfz46_7 hfz46_8 hfz46_9
       try clear hfz54_0 hfz54_1 hfz54_10 hfz54_11 hfz54_12 hfz54_2 hfz54_3 hfz54_4 hfz54_5 hfz54_6 hfz54_7 hfz54_8 hfz54_9
       try clear hfz58_0 hfz58_1
       try clear hfz62_0 hfz62_1 hfz62_10 hfz62_11 hfz62_2 hfz62_3 hfz62_4 hfz62_5 hfz62_6 hfz62_7 hfz62_8 hfz62_9
       try clear hx187_10
       try clear hx187_11
       try clear hx187_12
       try clear hx187_7
       try clear hx187_8
       try clear hx187_9
       try clear p187
       try clear q187
       obtain ⟨kq, x195007_18, x195008_18, x195009_18, x195010_18, x195011_18, HA, HJ18, HO_7, BK180, BK181, BK182, BK188, BK194, HB⟩ := hcut
       cases kq with
       | zero => exact absurd HA.out (by simp [signalbenchref44_Compile.j1])
       | succ kj18 =>
        have H := HA.out
        clear HA
        simp only [signalbenchref44_Compile.j1] at H
        have H' := Aside0.mk H
        clear H
        go_wp2
        go_loopg [7, 11] kj18 (fun kq v7 v11 w' => ∃ (x7_3 : List (S50)) (x11_3 : Int), v11 = .int .i64 x11_3 ∧ Aside0 (signalbenchref44_Compile.l1 kq x7_3 x8_1 x11_3 a0_0 l0_1 l1_0 l1_1 ((rd_T64 l0_1 x8_1).f0.f0) ((rd_T64 l0_1 x8_1).f0.f1) ((rd_T64 l0_1 x8_1).f0.f2) ((rd_T64 l0_1 x8_1).f0.f3) ((rd_T64 l0_1 x8_1).f0.f4) ((rd_T64 l0_1 x8_1).f1) ((rd_T64 l0_1 x8_1).f2) ((rd_T64 l0_1 x8_1).f3) ((rd_T64 l0_1 x8_1).f4.f0) ((rd_T64 l0_1 x8_1).f4.f1) ((rd_T64 l0_1 x8_1).f4.f2) ((rd_T64 l0_1 x8_1).f4.f3) ((rd_T64 l0_1 x8_1).f4.f4) t189 t190 t191 t192 t193 ((rd_T64 l0_1 x8_1).f2) ((rd_T64 l0_1 x8_1).f3) x195007_18 x195008_18 x195009_18 x195010_18 x195011_18 = some (r1, r2)) ∧ Aside0 (kq ≤ kj18) ∧ Aside0 (Kd.R k50 50 w' w.heap.size (fun k_ => k_ ≠ gb194) v7 x7_3) ∧ Aside0 (w'.heap[gb180]? = some (.cells #[.string a0_0, (.slice (some ad187) l0_1.length c0_1)] 24 (0, 0))) ∧ Aside0 (w'.heap[gb181]? = some (.cells #[(.slice A1_0 l1_0.length c1_0), (.slice A1_1 l1_1.length c1_1)] 28 (0, 0))) ∧ Aside0 (w'.heap[gb182]? = some (.cells #[(.slice none 0 0)] 31 (0, 0))) ∧ Aside0 (w'.heap[gb188]? = some (.cells #[.string ((rd_T64 l0_1 x8_1).f0.f0), .int .i64 ((rd_T64 l0_1 x8_1).f0.f1), .int .i64 ((rd_T64 l0_1 x8_1).f0.f2), .int .i64 ((rd_T64 l0_1 x8_1).f0.f3), .int .i64 ((rd_T64 l0_1 x8_1).f0.f4), .int .i64 ((rd_T64 l0_1 x8_1).f1), .int .i64 ((rd_T64 l0_1 x8_1).f2), .bool ((rd_T64 l0_1 x8_1).f3), .string ((rd_T64 l0_1 x8_1).f4.f0), .int .i64 ((rd_T64 l0_1 x8_1).f4.f1), .int .i64 ((rd_T64 l0_1 x8_1).f4.f2), .int .i64 ((rd_T64 l0_1 x8_1).f4.f3), .int .i64 ((rd_T64 l0_1 x8_1).f4.f4)] 64 (0, 0))) ∧ Aside0 (w'.heap[gb194]? = some (.cells #[.int .i64 t189, .int .i64 t190, .int .i64 t191, .int .i64 t192, .int .i64 t193, .int .i64 ((rd_T64 l0_1 x8_1).f2), .bool ((rd_T64 l0_1 x8_1).f3), .int .i64 x195007_18, .int .i64 x195008_18, .int .i64 x195009_18, .int .i64 x195010_18, .int .i64 x195011_18] 50 (0, 0))) ∧ Aside0 (Below w.heap.size w w'))
        case atStart => exact ⟨(x7_1), (0), (by first | rfl | (simp; done) | (simp [*]; done)), H', ⟨Nat.le_refl _⟩, ⟨by (with_reducible repeat (first | apply Kd.R_alloc | apply Kd.R_drewN | apply Kd.R_drew)); exact HO_7.out⟩, ⟨bg BK180.out⟩, ⟨bg BK181.out⟩, ⟨bg BK182.out⟩, ⟨bg BK188.out⟩, ⟨bg BK194.out⟩, ⟨bs HB.out⟩⟩
        case round =>
         clear H'
         try clear c1
         try clear p1
         try clear q1
         try clear hx1
         try clear c2
         try clear p2
         try clear c4
         try clear q4
         try clear c5
         try clear c6
         try clear p18
         try clear q18
         try clear hx18
         try clear c24
         try clear c25
         try clear c26
         try clear c41
         try clear c45
         try clear q47
         try clear c48
         try clear c50
         try clear c51
         try clear c52
         try clear c53
         try clear c55
         try clear c56
         try clear c57
         try clear c60
         try clear c61
         try clear hcz27_0 hcz27_1 hcz27_10 hcz27_11 hcz27_12 hcz27_2 hcz27_3 hcz27_4 hcz27_5 hcz27_6 hcz27_7 hcz27_8 hcz27_9
         try clear hcz46_0 hcz46_1 hcz46_10 hcz46_11 hcz46_12 hcz46_2 hcz46_3 hcz46_4 hcz46_5 hcz46_6 hcz46_7 hcz46_8 hcz46_9
         try clear hcz54_0 hcz54_1 hcz54_10 hcz54_11 hcz54_12 hcz54_2 hcz54_3 hcz54_4 hcz54_5 hcz54_6 hcz54_7 hcz54_8 hcz54_9
         try clear hcz58_0 hcz58_1
         try clear hcz62_0 hcz62_1 hcz62_10 hcz62_11 hcz62_2 hcz62_3 hcz62_4 hcz62_5 hcz62_6 hcz62_7 hcz62_8 hcz62_9
         try clear hfz27_0 hfz27_1 hfz27_10 hfz27_11 hfz27_12 hfz27_2 hfz27_3 hfz27_4 hfz27_5 hfz27_6 hfz27_7 hfz27_8 hfz27_9
         try clear hfz46_0 hfz46_1 hfz46_10 hfz46_11 hfz46_12 hfz46_2 hfz46_3 hfz46_4 hfz46_5 hfz46_6 hfz46_7 hfz46_8 hfz46_9
         try clear hfz54_0 hfz54_1 hfz54_10 hfz54_11 hfz54_12 hfz54_2 hfz54_3 hfz54_4 hfz54_5 hfz54_6 hfz54_7 hfz54_8 hfz54_9
         try clear hfz58_0 hfz58_1
         try clear hfz62_0 hfz62_1 hfz62_10 hfz62_11 hfz62_2 hfz62_3 hfz62_4 hfz62_5 hfz62_6 hfz62_7 hfz62_8 hfz62_9
         try clear hx187_10
         try clear hx187_11
         try clear hx187_12
         try clear hx187_7
         try clear hx187_8
         try clear hx187_9
         try clear p1
         try clear p18
         try clear p187
         try clear p2
         try clear q1
         try clear q18
         try clear q187
         try clear q4
         try clear q47
         obtain ⟨x7_3, x11_3, rfl, HA, HK3, HO_7, BK180, BK181, BK182, BK188, BK194, HB⟩ := hrel
         cases gk with
         | zero => exact absurd HA.out (by simp [signalbenchref44_Compile.l1])
         | succ k3 =>
          have H := HA.out
          clear HA
          simp only [signalbenchref44_Compile.l1] at H
          by_cases c63 : x11_3 < ((rd_T64 l0_1 x8_1).f1)
          ·
           rw [if_pos c63] at H
           have c63b0 : decide (x11_3 < ((rd_T64 l0_1 x8_1).f1)) = true := decide_eq_true c63
           clear c63
           by_cases c64 : (x7_3.length : Int) = 0
           ·
            rw [if_pos c64] at H
            have c64b0 : ((x7_3.length : Int) == 0) = true := beq_iff_eq.mpr c64
            have c64b1 : ((x7_3.length : Int) != 0) = false := bne_eq_false_iff_eq.mpr c64
            clear c64
            by_cases c65 : x7_3.length < 1466015503701
            ·
             rw [if_pos c65] at H
             have LMc65 := Aside0.mk c65
             clear c65
             obtain ⟨y200, hy200⟩ : ∃ y_ : List (S50), y_ = (x7_3 ++ [(⟨(⟨t189, t190, t191, t192, t193⟩ : S42), 0, false, (⟨0, 0, 0, 0, 0⟩ : S42)⟩ : S50)]) := ⟨_, rfl⟩
             replace H : (signalbenchref44_Compile.l1 k3 y200 x8_1 (wrap64 (x11_3 + 1)) a0_0 l0_1 l1_0 l1_1 ((rd_T64 l0_1 x8_1).f0.f0) ((rd_T64 l0_1 x8_1).f0.f1) ((rd_T64 l0_1 x8_1).f0.f2) ((rd_T64 l0_1 x8_1).f0.f3) ((rd_T64 l0_1 x8_1).f0.f4) ((rd_T64 l0_1 x8_1).f1) ((rd_T64 l0_1 x8_1).f2) ((rd_T64 l0_1 x8_1).f3) ((rd_T64 l0_1 x8_1).f4.f0) ((rd_T64 l0_1 x8_1).f4.f1) ((rd_T64 l0_1 x8_1).f4.f2) ((rd_T64 l0_1 x8_1).f4.f3) ((rd_T64 l0_1 x8_1).f4.f4) t189 t190 t191 t192 t193 ((rd_T64 l0_1 x8_1).f2) ((rd_T64 l0_1 x8_1).f3) x195007_18 x195008_18 x195009_18 x195010_18 x195011_18) = some (r1, r2) := by first | (rw [hy200]; with_reducible exact H) | (have H2_ := (Option.bind_some _ _).symm.trans H; rw [hy200]; with_reducible exact H2_) | (have H2_ := (Option.bind_some _ _).symm.trans H; with_reducible exact H2_) | with_reducible exact H | (rw [hy200]; exact H) | exact H
             have Ny200 := Aside0.mk hy200
             clear hy200
             have H' := Aside0.mk H
             clear H
             have hnb66 := NB188_180.out
             have hnc66 := NB180_188.out
             have hnb67 := NB188_181.out
             have hnc67 := NB181_188.out
             have hnb68 := NB188_182.out
             have hnc68 := NB182_188.out
             have hnb69 := NB188_194.out
             have hnc69 := NB194_188.out
             obtain ⟨hcz70_0, hcz70_1, hcz70_2, hcz70_3, hcz70_4, hcz70_5, hcz70_6, hcz70_7, hcz70_8, hcz70_9, hcz70_10, hcz70_11, hcz70_12⟩ := bc13 BK188.out
             obtain ⟨hfz70_0, hfz70_1, hfz70_2, hfz70_3, hfz70_4, hfz70_5, hfz70_6, hfz70_7, hfz70_8, hfz70_9, hfz70_10, hfz70_11, hfz70_12⟩ := bf13 BK188.out
             obtain ⟨Ao71, co71, eo71⟩ := Kd.R_slice HO_7.out
             subst eo71
             have hnb72 := NB194_180.out
             have hnc72 := NB180_194.out
             have hnb73 := NB194_181.out
             have hnc73 := NB181_194.out
             have hnb74 := NB194_182.out
             have hnc74 := NB182_194.out
             obtain ⟨hcz75_0, hcz75_1, hcz75_2, hcz75_3, hcz75_4, hcz75_5, hcz75_6, hcz75_7, hcz75_8, hcz75_9, hcz75_10, hcz75_11⟩ := bc12 BK194.out
             obtain ⟨hfz75_0, hfz75_1, hfz75_2, hfz75_3, hfz75_4, hfz75_5, hfz75_6, hfz75_7, hfz75_8, hfz75_9, hfz75_10, hfz75_11⟩ := bf12 BK194.out
             go_wp2_with (first | ((with_reducible refine gate_builtin (b := .append) (xs := #[.tmp 57, .tmp 61]) rfl ?_); at_builtin; refine Kd.R_append k50 (w0 := w) w.heap.size rfl (.tmp 57) (.tmp 61) 29 50 (.agg #[(.int .i64 0), (.int .i64 0), (.int .i64 0), (.int .i64 0), (.int .i64 0), (.int .i64 0), (.bool false), (.int .i64 0), (.int .i64 0), (.int .i64 0), (.int .i64 0), (.int .i64 0)]) 96 rfl Try.underlying29 info50 rfl (by decide) (by omega) (.slice Ao71 x7_3.length co71) x7_3 (⟨(⟨t189, t190, t191, t192, t193⟩ : S42), 0, false, (⟨0, 0, 0, 0, 0⟩ : S42)⟩ : S50) [.int .i64 t189, .int .i64 t190, .int .i64 t191, .int .i64 t192, .int .i64 t193, .int .i64 0, .bool false, .int .i64 0, .int .i64 0, .int .i64 0, .int .i64 0, .int .i64 0] (fun k_ => k_ ≠ gb194) (fun _ => False) rfl rfl ?aP (fun _ hk => hk.elim) ?aF ?aO ?aB ?aS ?aL ?_; (case aP => exact k50_mkM _ _ _ (⟨(⟨t189, t190, t191, t192, t193⟩ : S42), 0, false, (⟨0, 0, 0, 0, 0⟩ : S42)⟩ : S50)); (case aB => exact (bs HB.out)); (case aF => exact (fun k_ hk => Kd.freshB (g := gb194) (o := .cells #[.int .i64 t189, .int .i64 t190, .int .i64 t191, .int .i64 t192, .int .i64 t193, .int .i64 ((rd_T64 l0_1 x8_1).f2), .bool ((rd_T64 l0_1 x8_1).f3), .int .i64 x195007_18, .int .i64 x195008_18, .int .i64 x195009_18, .int .i64 x195010_18, .int .i64 x195011_18] 50 (0, 0)) (bg BK194.out) k_ hk)); (case aO => exact (by (with_reducible repeat (first | apply Kd.R_alloc | apply Kd.R_drewN | apply Kd.R_drew)); exact HO_7.out)); (case aS => exact (below_size (bs HB.out))); (case aL => have := LMc65.out; omega); intro v201 w76 ho hb hg hat; rw [← Ny200.out] at ho; have n0_ := Aside0.mk (blk_grown (g := gb180) (o := .cells #[.string a0_0, .slice (some ad187) l0_1.length c0_1] 24 (0, 0)) (bg BK180.out) hg (Kd.R_ne HO_7.out BK180.out (by decide))); have n1_ := Aside0.mk (blk_grown (g := gb181) (o := .cells #[.slice A1_0 l1_0.length c1_0, .slice A1_1 l1_1.length c1_1] 28 (0, 0)) (bg BK181.out) hg (Kd.R_ne HO_7.out BK181.out (by decide))); have n2_ := Aside0.mk (blk_grown (g := gb182) (o := .cells #[.slice none 0 0] 31 (0, 0)) (bg BK182.out) hg (Kd.R_ne HO_7.out BK182.out (by decide))); have n3_ := Aside0.mk (blk_grown (g := gb188) (o := .cells #[.string ((rd_T64 l0_1 x8_1).f0.f0), .int .i64 ((rd_T64 l0_1 x8_1).f0.f1), .int .i64 ((rd_T64 l0_1 x8_1).f0.f2), .int .i64 ((rd_T64 l0_1 x8_1).f0.f3), .int .i64 ((rd_T64 l0_1 x8_1).f0.f4), .int .i64 ((rd_T64 l0_1 x8_1).f1), .int .i64 ((rd_T64 l0_1 x8_1).f2), .bool ((rd_T64 l0_1 x8_1).f3), .string ((rd_T64 l0_1 x8_1).f4.f0), .int .i64 ((rd_T64 l0_1 x8_1).f4.f1), .int .i64 ((rd_T64 l0_1 x8_1).f4.f2), .int .i64 ((rd_T64 l0_1 x8_1).f4.f3), .int .i64 ((rd_T64 l0_1 x8_1).f4.f4)] 64 (0, 0)) (bg BK188.out) hg (Kd.R_ne HO_7.out BK188.out (by decide))); have n4_ := Aside0.mk (blk_grown (g := gb194) (o := .cells #[.int .i64 t189, .int .i64 t190, .int .i64 t191, .int .i64 t192, .int .i64 t193, .int .i64 ((rd_T64 l0_1 x8_1).f2), .bool ((rd_T64 l0_1 x8_1).f3), .int .i64 x195007_18, .int .i64 x195008_18, .int .i64 x195009_18, .int .i64 x195010_18, .int .i64 x195011_18] 50 (0, 0)) (bg BK194.out) hg (Kd.R_away HO_7.out (fun _ hk => hk))); have n5_ := Aside0.mk (hb); have n6_ := Aside0.mk (ho); clear BK180; clear BK181; clear BK182; clear BK188; clear BK194; clear HB; clear HO_7; have BK180 := n0_; have BK181 := n1_; have BK182 := n2_; have BK188 := n3_; have BK194 := n4_; have HB := n5_; have HO202 := n6_; clear n0_ n1_ n2_ n3_ n4_ n5_ n6_; clear ho hb hg hat))
             go_roundg k3
             case measure => have := HK1.out; have := HJ18.out; have := HK3.out; omega
             case rel => exact ⟨(y200), (wrap64 (x11_3 + 1)), (by first | rfl | (simp; done) | (simp [*]; done)), H', ⟨by have := HK1.out; have := HJ18.out; have := HK3.out; omega⟩, ⟨by (with_reducible repeat (first | apply Kd.R_alloc | apply Kd.R_drewN | apply Kd.R_drew)); exact HO202.out⟩, ⟨bg BK180.out⟩, ⟨bg BK181.out⟩, ⟨bg BK182.out⟩, ⟨bg BK188.out⟩, ⟨bg BK194.out⟩, ⟨bs HB.out⟩⟩
            ·
             rw [if_neg c65] at H
             exact absurd H (by simp)
           ·
            rw [if_neg c64] at H
            have c64b0 : ((x7_3.length : Int) == 0) = false := beq_eq_false_iff_ne.mpr c64
            have c64b1 : ((x7_3.length : Int) != 0) = true := bne_iff_ne.mpr c64
            have c64b2 : ¬ (x7_3 = []) := fun h_ => c64 (by rw [h_]; rfl)
            by_cases c77 : x7_3.length < 1466015503701
            ·
             rw [if_pos c77] at H
             have LMc77 := Aside0.mk c77
             clear c77
             obtain ⟨y203, hy203⟩ : ∃ y_ : List (S50), y_ = (x7_3 ++ [(⟨(⟨t189, t190, t191, t192, t193⟩ : S42), ((rd_T64 l0_1 x8_1).f2), ((rd_T64 l0_1 x8_1).f3), (⟨x195007_18, x195008_18, x195009_18, x195010_18, x195011_18⟩ : S42)⟩ : S50)]) := ⟨_, rfl⟩
             replace H : (signalbenchref44_Compile.l1 k3 y203 x8_1 (wrap64 (x11_3 + 1)) a0_0 l0_1 l1_0 l1_1 ((rd_T64 l0_1 x8_1).f0.f0) ((rd_T64 l0_1 x8_1).f0.f1) ((rd_T64 l0_1 x8_1).f0.f2) ((rd_T64 l0_1 x8_1).f0.f3) ((rd_T64 l0_1 x8_1).f0.f4) ((rd_T64 l0_1 x8_1).f1) ((rd_T64 l0_1 x8_1).f2) ((rd_T64 l0_1 x8_1).f3) ((rd_T64 l0_1 x8_1).f4.f0) ((rd_T64 l0_1 x8_1).f4.f1) ((rd_T64 l0_1 x8_1).f4.f2) ((rd_T64 l0_1 x8_1).f4.f3) ((rd_T64 l0_1 x8_1).f4.f4) t189 t190 t191 t192 t193 ((rd_T64 l0_1 x8_1).f2) ((rd_T64 l0_1 x8_1).f3) x195007_18 x195008_18 x195009_18 x195010_18 x195011_18) = some (r1, r2) := by first | (rw [hy203]; with_reducible exact H) | (have H2_ := (Option.bind_some _ _).symm.trans H; rw [hy203]; with_reducible exact H2_) | (have H2_ := (Option.bind_some _ _).symm.trans H; with_reducible exact H2_) | with_reducible exact H | (rw [hy203]; exact H) | exact H
             have Ny203 := Aside0.mk hy203
             clear hy203
             have H' := Aside0.mk H
             clear H
             have hnb78 := NB188_180.out
             have hnc78 := NB180_188.out
             have hnb79 := NB188_181.out
             have hnc79 := NB181_188.out
             have hnb80 := NB188_182.out
             have hnc80 := NB182_188.out
             have hnb81 := NB188_194.out
             have hnc81 := NB194_188.out
             obtain ⟨hcz82_0, hcz82_1, hcz82_2, hcz82_3, hcz82_4, hcz82_5, hcz82_6, hcz82_7, hcz82_8, hcz82_9, hcz82_10, hcz82_11, hcz82_12⟩ := bc13 BK188.out
             obtain ⟨hfz82_0, hfz82_1, hfz82_2, hfz82_3, hfz82_4, hfz82_5, hfz82_6, hfz82_7, hfz82_8, hfz82_9, hfz82_10, hfz82_11, hfz82_12⟩ := bf13 BK188.out
             obtain ⟨Ao83, co83, eo83⟩ := Kd.R_slice HO_7.out
             subst eo83
             have hnb84 := NB194_180.out
             have hnc84 := NB180_194.out
             have hnb85 := NB194_181.out
             have hnc85 := NB181_194.out
             have hnb86 := NB194_182.out
             have hnc86 := NB182_194.out
             obtain ⟨hcz87_0, hcz87_1, hcz87_2, hcz87_3, hcz87_4, hcz87_5, hcz87_6, hcz87_7, hcz87_8, hcz87_9, hcz87_10, hcz87_11⟩ := bc12 BK194.out
             obtain ⟨hfz87_0, hfz87_1, hfz87_2, hfz87_3, hfz87_4, hfz87_5, hfz87_6, hfz87_7, hfz87_8, hfz87_9, hfz87_10, hfz87_11⟩ := bf12 BK194.out
             go_wp2_with (first | ((with_reducible refine gate_builtin (b := .append) (xs := #[.tmp 63, .tmp 65]) rfl ?_); at_builtin; refine Kd.R_append k50 (w0 := w) w.heap.size rfl (.tmp 63) (.tmp 65) 29 50 (.agg #[(.int .i64 0), (.int .i64 0), (.int .i64 0), (.int .i64 0), (.int .i64 0), (.int .i64 0), (.bool false), (.int .i64 0), (.int .i64 0), (.int .i64 0), (.int .i64 0), (.int .i64 0)]) 96 rfl Try.underlying29 info50 rfl (by decide) (by omega) (.slice Ao83 x7_3.length co83) x7_3 (⟨(⟨t189, t190, t191, t192, t193⟩ : S42), ((rd_T64 l0_1 x8_1).f2), ((rd_T64 l0_1 x8_1).f3), (⟨x195007_18, x195008_18, x195009_18, x195010_18, x195011_18⟩ : S42)⟩ : S50) [.int .i64 t189, .int .i64 t190, .int .i64 t191, .int .i64 t192, .int .i64 t193, .int .i64 ((rd_T64 l0_1 x8_1).f2), .bool ((rd_T64 l0_1 x8_1).f3), .int .i64 x195007_18, .int .i64 x195008_18, .int .i64 x195009_18, .int .i64 x195010_18, .int .i64 x195011_18] (fun k_ => k_ ≠ gb194) (fun _ => False) rfl rfl ?aP (fun _ hk => hk.elim) ?aF ?aO ?aB ?aS ?aL ?_; (case aP => exact k50_mkM _ _ _ (⟨(⟨t189, t190, t191, t192, t193⟩ : S42), ((rd_T64 l0_1 x8_1).f2), ((rd_T64 l0_1 x8_1).f3), (⟨x195007_18, x195008_18, x195009_18, x195010_18, x195011_18⟩ : S42)⟩ : S50)); (case aB => exact (bs HB.out)); (case aF => exact (fun k_ hk => Kd.freshB (g := gb194) (o := .cells #[.int .i64 t189, .int .i64 t190, .int .i64 t191, .int .i64 t192, .int .i64 t193, .int .i64 ((rd_T64 l0_1 x8_1).f2), .bool ((rd_T64 l0_1 x8_1).f3), .int .i64 x195007_18, .int .i64 x195008_18, .int .i64 x195009_18, .int .i64 x195010_18, .int .i64 x195011_18] 50 (0, 0)) (bg BK194.out) k_ hk)); (case aO => exact (by (with_reducible repeat (first | apply Kd.R_alloc | apply Kd.R_drewN | apply Kd.R_drew)); exact HO_7.out)); (case aS => exact (below_size (bs HB.out))); (case aL => have := LMc77.out; omega); intro v204 w88 ho hb hg hat; rw [← Ny203.out] at ho; have n0_ := Aside0.mk (blk_grown (g := gb180) (o := .cells #[.string a0_0, .slice (some ad187) l0_1.length c0_1] 24 (0, 0)) (bg BK180.out) hg (Kd.R_ne HO_7.out BK180.out (by decide))); have n1_ := Aside0.mk (blk_grown (g := gb181) (o := .cells #[.slice A1_0 l1_0.length c1_0, .slice A1_1 l1_1.length c1_1] 28 (0, 0)) (bg BK181.out) hg (Kd.R_ne HO_7.out BK181.out (by decide))); have n2_ := Aside0.mk (blk_grown (g := gb182) (o := .cells #[.slice none 0 0] 31 (0, 0)) (bg BK182.out) hg (Kd.R_ne HO_7.out BK182.out (by decide))); have n3_ := Aside0.mk (blk_grown (g := gb188) (o := .cells #[.string ((rd_T64 l0_1 x8_1).f0.f0), .int .i64 ((rd_T64 l0_1 x8_1).f0.f1), .int .i64 ((rd_T64 l0_1 x8_1).f0.f2), .int .i64 ((rd_T64 l0_1 x8_1).f0.f3), .int .i64 ((rd_T64 l0_1 x8_1).f0.f4), .int .i64 ((rd_T64 l0_1 x8_1).f1), .int .i64 ((rd_T64 l0_1 x8_1).f2), .bool ((rd_T64 l0_1 x8_1).f3), .string ((rd_T64 l0_1 x8_1).f4.f0), .int .i64 ((rd_T64 l0_1 x8_1).f4.f1), .int .i64 ((rd_T64 l0_1 x8_1).f4.f2), .int .i64 ((rd_T64 l0_1 x8_1).f4.f3), .int .i64 ((rd_T64 l0_1 x8_1).f4.f4)] 64 (0, 0)) (bg BK188.out) hg (Kd.R_ne HO_7.out BK188.out (by decide))); have n4_ := Aside0.mk (blk_grown (g := gb194) (o := .cells #[.int .i64 t189, .int .i64 t190, .int .i64 t191, .int .i64 t192, .int .i64 t193, .int .i64 ((rd_T64 l0_1 x8_1).f2), .bool ((rd_T64 l0_1 x8_1).f3), .int .i64 x195007_18, .int .i64 x195008_18, .int .i64 x195009_18, .int .i64 x195010_18, .int .i64 x195011_18] 50 (0, 0)) (bg BK194.out) hg (Kd.R_away HO_7.out (fun _ hk => hk))); have n5_ := Aside0.mk (hb); have n6_ := Aside0.mk (ho); clear BK180; clear BK181; clear BK182; clear BK188; clear BK194; clear HB; clear HO_7; have BK180 := n0_; have BK181 := n1_; have BK182 := n2_; have BK188 := n3_; have BK194 := n4_; have HB := n5_; have HO205 := n6_; clear n0_ n1_ n2_ n3_ n4_ n5_ n6_; clear ho hb hg hat))
             go_roundg k3
             case measure => have := HK1.out; have := HJ18.out; have := HK3.out; omega
             case rel => exact ⟨(y203), (wrap64 (x11_3 + 1)), (by first | rfl | (simp; done) | (simp [*]; done)), H', ⟨by have := HK1.out; have := HJ18.out; have := HK3.out; omega⟩, ⟨by (with_reducible repeat (first | apply Kd.R_alloc | apply Kd.R_drewN | apply Kd.R_drew)); exact HO205.out⟩, ⟨bg BK180.out⟩, ⟨bg BK181.out⟩, ⟨bg BK182.out⟩, ⟨bg BK188.out⟩, ⟨bg BK194.out⟩, ⟨bs HB.out⟩⟩
            ·
             rw [if_neg c77] at H
             exact absurd H (by simp)
          ·
           rw [if_neg c63] at H
           have c63b0 : decide (x11_3 < ((rd_T64 l0_1 x8_1).f1)) = false := decide_eq_false c63
           clear c63
           have H' := Aside0.mk H
           clear H
           have hnb89 := NB188_180.out
           have hnc89 := NB180_188.out
           have hnb90 := NB188_181.out
           have hnc90 := NB181_188.out
           have hnb91 := NB188_182.out
           have hnc91 := NB182_188.out
           have hnb92 := NB188_194.out
           have hnc92 := NB194_188.out
           obtain ⟨hcz93_0, hcz93_1, hcz93_2, hcz93_3, hcz93_4, hcz93_5, hcz93_6, hcz93_7, hcz93_8, hcz93_9, hcz93_10, hcz93_11, hcz93_12⟩ := bc13 BK188.out
           obtain ⟨hfz93_0, hfz93_1, hfz93_2, hfz93_3, hfz93_4, hfz93_5, hfz93_6, hfz93_7, hfz93_8, hfz93_9, hfz93_10, hfz93_11, hfz93_12⟩ := bf13 BK188.out
           go_wp2
           go_roundg k3
           case measure => have := HK1.out; have := HJ18.out; have := HK3.out; omega
           case rel => exact ⟨(x7_3), (wrap64 (x8_1 + 1)), (by first | rfl | (simp; done) | (simp [*]; done)), H', ⟨by have := HK1.out; have := HJ18.out; have := HK3.out; omega⟩, ⟨by (with_reducible repeat (first | apply Kd.R_alloc | apply Kd.R_drewN | apply Kd.R_drew)); exact Kd.R_mono HO_7.out (fun _ hk => trivial)⟩, ⟨bg BK180.out⟩, ⟨bg BK181.out⟩, ⟨bg BK182.out⟩, ⟨bs HB.out⟩⟩
     ·
      rw [if_neg c17] at H
      exact absurd H (by simp)
    ·
     rw [if_neg c16] at H
     have c16b0 : decide (x8_1 < (l0_1.length : Int)) = false := decide_eq_false c16
     clear c16
     simp only [Option.some.injEq, Prod.mk.injEq] at H
     obtain ⟨rfl, rfl⟩ := H
     have hnb94 := NB180_181.out
     have hnc94 := NB181_180.out
     have hnb95 := NB180_182.out
     have hnc95 := NB182_180.out
     obtain ⟨hcz96_0, hcz96_1⟩ := bc2 BK180.out
     obtain ⟨hfz96_0, hfz96_1⟩ := bf2 BK180.out
     obtain ⟨Ao97, co97, eo97⟩ := Kd.R_slice HO_7.out
     subst eo97
     have hnb98 := NB182_181.out
     have hnc98 := NB181_182.out
     have hcz99_0 : wr.cell? ⟨gb182, 0, none⟩ = some (.slice none 0 0) := (blk_cell BK182.out 0).trans rfl
     have hfz99_0 := blk_frozen BK182.out 0
     go_wp2
     refine bodyPost_ret (results_ct rfl _ _ gb182 31 #[.slice Ao97 x7_1.length co97] (0, 0) _ rfl (by (with_reducible repeat (first | refine blk_drewN ?_ _ | refine blk_drew ?_ | refine blk_alloc ?_ _)); refine blk_put (cs := #[.slice none 0 0]) ?_ 0 _ rfl; exact bg BK182.out) Try.underlying31 rfl (by kernel_rfl)) rfl ?_
     exact ⟨_, by first | rfl | (simp [errW_none, errW_some] <;> rfl) | (simp [*, errW_none, errW_some] <;> rfl), by (with_reducible repeat (first | apply Kd.R_alloc | apply Kd.R_drewN | apply Kd.R_drew)); exact Kd.R_mono (Kd.R_far (p := ⟨gb182, 0, none⟩) (Kd.R_types HO_7.out BK182.out (by decide)) (fun _ hk => hk.2) (.slice Ao97 x7_1.length co97)) (fun _ hk => trivial), bs HB.out⟩
 ·
  rw [if_neg c4] at H
  have c4b0 : (t183 == 0) = false := beq_eq_false_iff_ne.mpr c4
  have c4b1 : (t183 != 0) = true := bne_iff_ne.mpr c4
  simp only [Option.some.injEq, Prod.mk.injEq] at H
  obtain ⟨rfl, rfl⟩ := H
  go_enter Try.func17, Try.ntmps17
  go_wp2_with (first | ((with_reducible refine gate_dst (N := 2) rfl ?_); refine box_event ?hg (N := 2) ?hd (cs := #[.string a0_0, .slice A0_1 l0_1.length c0_1]) (t := 24) ?hr ?_; (case hd => rfl); (case hg => rfl); (case hr => first | (go_simp; done) | (go_simp; rfl)); intro gb180 hg w100 hbox hb; have n0_ := Aside0.mk (below_step (bs HB.out) hb); have n1_ := Aside0.mk (hbox); have n2_ := Aside0.mk ((by rw [hg]; exact (below_size (bs HB.out)) : w.heap.size ≤ gb180)); have n3_ := n2_; clear HB; have HB := n0_; have BK180 := n1_; have GW180 := n2_; have GE180 := n3_; clear n0_ n1_ n2_ n3_; clear hb hbox hg) | ((with_reducible refine gate_dst (N := 3) rfl ?_); refine box_event ?hg (N := 3) ?hd (cs := #[.slice A1_0 l1_0.length c1_0, .slice A1_1 l1_1.length c1_1]) (t := 28) ?hr ?_; (case hd => rfl); (case hg => rfl); (case hr => first | (go_simp; done) | (go_simp; rfl)); intro gb181 hg w101 hbox hb; have n0_ := Aside0.mk (blk_below (bg BK180.out) hb); have n1_ := Aside0.mk (below_step (bs HB.out) hb); have n2_ := Aside0.mk (hbox); have n3_ := Aside0.mk ((by rw [hg]; exact (below_size (bs HB.out)) : w.heap.size ≤ gb181)); have n4_ := n3_; have n5_ := Aside0.mk ((by rw [hg]; exact Nat.ne_of_lt (blk_lt (bg BK180.out)) : gb180 ≠ gb181)); have n6_ := Aside0.mk ((by rw [hg]; exact Nat.ne_of_gt (blk_lt (bg BK180.out)) : gb181 ≠ gb180)); clear BK180; clear HB; have BK180 := n0_; have HB := n1_; have BK181 := n2_; have GW181 := n3_; have GE181 := n4_; have NB180_181 := n5_; have NB181_180 := n6_; clear n0_ n1_ n2_ n3_ n4_ n5_ n6_; clear hb hbox hg) | ((with_reducible refine gate_dst (N := 4) rfl ?_); refine box_event ?hg (N := 4) ?hd (cs := #[.slice none 0 0]) (t := 31) ?hr ?_; (case hd => rfl); (case hg => rfl); (case hr => first | (go_simp; done) | (go_simp; rfl)); intro gb182 hg w102 hbox hb; have n0_ := Aside0.mk (blk_below (bg BK180.out) hb); have n1_ := Aside0.mk (blk_below (bg BK181.out) hb); have n2_ := Aside0.mk (below_step (bs HB.out) hb); have n3_ := Aside0.mk (hbox); have n4_ := Aside0.mk ((by rw [hg]; exact (below_size (bs HB.out)) : w.heap.size ≤ gb182)); have n5_ := n4_; have n6_ := Aside0.mk ((by rw [hg]; exact Nat.ne_of_lt (blk_lt (bg BK180.out)) : gb180 ≠ gb182)); have n7_ := Aside0.mk ((by rw [hg]; exact Nat.ne_of_gt (blk_lt (bg BK180.out)) : gb182 ≠ gb180)); have n8_ := Aside0.mk ((by rw [hg]; exact Nat.ne_of_lt (blk_lt (bg BK181.out)) : gb181 ≠ gb182)); have n9_ := Aside0.mk ((by rw [hg]; exact Nat.ne_of_gt (blk_lt (bg BK181.out)) : gb182 ≠ gb181)); clear BK180; clear BK181; clear HB; have BK180 := n0_; have BK181 := n1_; have HB := n2_; have BK182 := n3_; have GW182 := n4_; have GE182 := n5_; have NB180_182 := n6_; have NB182_180 := n7_; have NB181_182 := n8_; have NB182_181 := n9_; clear n0_ n1_ n2_ n3_ n4_ n5_ n6_ n7_ n8_ n9_; clear hb hbox hg; have hnb103 := NB180_181.out; have hnc103 := NB181_180.out; have hnb104 := NB180_182.out; have hnc104 := NB182_180.out; obtain ⟨hcz105_0, hcz105_1⟩ := bc2 BK180.out; obtain ⟨hfz105_0, hfz105_1⟩ := bf2 BK180.out; have hnb106 := NB181_182.out; have hnc106 := NB182_181.out; obtain ⟨hcz107_0, hcz107_1⟩ := bc2 BK181.out; obtain ⟨hfz107_0, hfz107_1⟩ := bf2 BK181.out) | ((with_reducible refine gate_callee (f := 40) rfl ?_); refine goesL_ (some 14) rfl rfl Try.func40 (by kernel_rfl) rfl #[.agg #[.string a0_0, .slice A0_1 l0_1.length c0_1], .agg #[.slice A1_0 l1_0.length c1_0, .slice A1_1 l1_1.length c1_1]] rfl (by (try simp only [List.map_toArray, List.map_cons, List.map_nil]); first | done | rfl | (simp only [List.length_drop, List.length_take]; rfl)) ?_; (with_reducible refine (signalbenchref43_Check.calls k a0_0 _ _ l0_1 _ _ l1_0 _ _ l1_1 t183 _ ?side1 ?side2 ?side3 ?side4 ?side5 ?side6 A3.out).mono ?_); (case side1 => repeat (first | exact (Kd.C_below HR0_1.out HB.out) | (with_reducible refine Kd.C_alloc ?_ _) | (with_reducible refine Kd.C_drewN ?_ _) | (with_reducible refine Kd.C_drew ?_))); (case side2 => exact HC0_1.out); (case side3 => repeat (first | exact (Kd.C_below HR1_0.out HB.out) | (with_reducible refine Kd.C_alloc ?_ _) | (with_reducible refine Kd.C_drewN ?_ _) | (with_reducible refine Kd.C_drew ?_))); (case side4 => exact HC1_0.out); (case side5 => repeat (first | exact (Kd.C_below HR1_1.out HB.out) | (with_reducible refine Kd.C_alloc ?_ _) | (with_reducible refine Kd.C_drewN ?_ _) | (with_reducible refine Kd.C_drew ?_))); (case side6 => exact HC1_1.out); rintro e w108 ⟨rfl, hb⟩; refine ⟨_, rfl, ?_⟩; have n0_ := Aside0.mk (blk_below (bg BK180.out) hb); have n1_ := Aside0.mk (blk_below (bg BK181.out) hb); have n2_ := Aside0.mk (blk_below (bg BK182.out) hb); have n3_ := Aside0.mk (below_step (bs HB.out) hb); clear BK180; clear BK181; clear BK182; clear HB; have BK180 := n0_; have BK181 := n1_; have BK182 := n2_; have HB := n3_; clear n0_ n1_ n2_ n3_; (try clear hb); (try clear hb2); (try clear hk); (try clear hi); have hcz109_0 : w108.cell? ⟨gb182, 0, none⟩ = some (.slice none 0 0) := (blk_cell BK182.out 0).trans rfl; have hfz109_0 := blk_frozen BK182.out 0))
  refine bodyPost_ret (results_ct rfl _ _ gb182 31 #[.slice none 0 0] (0, 0) _ rfl (by (with_reducible repeat (first | refine blk_drewN ?_ _ | refine blk_drew ?_ | refine blk_alloc ?_ _)); refine blk_put (cs := #[.slice none 0 0]) ?_ 0 _ rfl; exact bg BK182.out) Try.underlying31 rfl (by kernel_rfl)) rfl ?_
  exact ⟨_, by first | rfl | (simp [errW_none, errW_some] <;> rfl) | (simp [*, errW_none, errW_some] <;> rfl), by first | exact Kd.R_nil _ _ _ _ _ | exact Kd.N_nil _ _ _ _ _ | exact Kd.V_nil _ _ _ _ _ | exact Kd.Q_nil _ _ _ _ _ | exact Kd.S_nil _ _ _ _ _, bs HB.out⟩

end Go.Proofs.Ytgdjiphljadlcaa.H
