-- Printed by wip/hprint.py (this project's own driver of the kit's print) out of the translation; Lean checks it.
import Derived.Test.YtioedeglgljblaaH0
import Derived.Test.YtioedeglgljblaaH1
import Derived.Test.YtioedeglgljblaaHGood
import Derived.Test.YtioedeglgljblaaH27
namespace Go.Proofs.Ytioedeglgljblaa.H
open Go.RowKit Go.Proofs.YtioedeglgljblaaW.PrintWords Go.Proofs.YtioedeglgljblaaW.PrintLast Go.Proofs.YtioedeglgljblaaW.PrintMore
attribute [local go_sem] max2_int min2_int max_two min_two max_three min_three max_four min_four   -- for this text's walks alone
set_option linter.unusedVariables false
set_option linter.unusedSimpArgs false

attribute [local go_sem high] eqA46
/-! ### signalbenchref09_Same: function 21 -/
mutual
def signalbenchref09_Same.j0 : Nat → Bool → List ByteArray → List (S46) → List ByteArray → List (S46) → Option (Bool)
 | 0, _, _, _, _, _ => none
 | k + 1, x25, x414000, x414001, x415000, x415001 => if x25 = true then (some false) else (signalbenchref09_Same.l0 k 0 x414000 x414001 x415000 x415001)
def signalbenchref09_Same.l0 : Nat → Int → List ByteArray → List (S46) → List ByteArray → List (S46) → Option (Bool)
 | 0, _, _, _, _, _ => none
 | k + 1, x5, x414000, x414001, x415000, x415001 => if x5 < (x414000.length : Int) then (if 0 ≤ x5 then (if x5 < (x415000.length : Int) then (if (rdOf ByteArray.empty x414000 x5).toList = (rdOf ByteArray.empty x415000 x5).toList then (signalbenchref09_Same.l0 k (wrap64 (x5 + 1)) x414000 x414001 x415000 x415001) else (some false)) else (none)) else (none)) else ((signalbenchref09_Clean.f k x414001).bind fun t419 => ((signalbenchref09_Clean.f k x415001).bind fun t422 => (if (t419.length : Int) = (t422.length : Int) then (signalbenchref09_Same.l1 k t419 t422 0) else (some false))))
def signalbenchref09_Same.l1 : Nat → List (S46) → List (S46) → Int → Option (Bool)
 | 0, _, _, _ => none
 | k + 1, x6, x7, x8 => if x8 < (x6.length : Int) then (if 0 ≤ x8 then (if x8 < (x7.length : Int) then (if (!(((rd_T46 x6 x8).f0) == ((rd_T46 x7 x8).f0)) || (!(((rd_T46 x6 x8).f1) == ((rd_T46 x7 x8).f1)))) = true then (some false) else (signalbenchref09_Same.l1 k x6 x7 (wrap64 (x8 + 1)))) else (none)) else (none)) else (some true)
end
def signalbenchref09_Same.f (k : Nat) (l0_0 : List ByteArray) (l0_1 : List (S46)) (l1_0 : List ByteArray) (l1_1 : List (S46)) : Option (Bool) := (signalbenchref09_Good.f k l0_0 l0_1).bind fun t415 => (if t415 = true then ((signalbenchref09_Good.f k l1_0 l1_1).bind fun t416 => (if t416 = true then (signalbenchref09_Same.j0 k ((l0_0.length : Int) != (l1_0.length : Int)) l0_0 l0_1 l1_0 l1_1) else (signalbenchref09_Same.j0 k true l0_0 l0_1 l1_0 l1_1))) else (signalbenchref09_Same.j0 k true l0_0 l0_1 l1_0 l1_1))
def signalbenchref09_Same.T6 : Bool × List (List Nat × List Nat) := (true, [([], []), ([0], [0]), ([], []), ([1, 2], [1, 2]), ([3], [3]), ([], []), ([5], [5]), ([], []), ([6, 7], [6, 7]), ([8], [8]), ([4, 9], [4, 9])])
def signalbenchref09_Same.B6 : List Nat := [0, 1, 0, 7, 15, 0, 32, 0, 224, 480, 1023]
theorem signalbenchref09_Same.tab6 : rtab .any (opsOf Try.f21 6) = signalbenchref09_Same.T6 := by kernel_rfl
theorem signalbenchref09_Same.bits6 : waitsOk signalbenchref09_Same.T6.2 signalbenchref09_Same.B6 = true := by kernel_rfl
def signalbenchref09_Same.T8 : Bool × List (List Nat × List Nat) := (true, [([], []), ([0], [0]), ([1], [1]), ([], []), ([3], [3]), ([4, 2], [4]), ([2, 5, 0, 1, 2], [2]), ([5, 6, 0, 1, 2, 3, 4, 5, 6], [5])])
def signalbenchref09_Same.B8 : List Nat := [0, 1, 3, 0, 8, 31, 63, 127]
theorem signalbenchref09_Same.tab8 : rtab .any (opsOf Try.f21 8) = signalbenchref09_Same.T8 := by kernel_rfl
theorem signalbenchref09_Same.bits8 : waitsOk signalbenchref09_Same.T8.2 signalbenchref09_Same.B8 = true := by kernel_rfl
def signalbenchref09_Same.T14 : Bool × List (List Nat × List Nat) := (true, [([], []), ([], []), ([0, 1], [0, 1]), ([2], [2]), ([], []), ([], []), ([4, 5], [4, 5]), ([6], [6]), ([3, 7], [3, 7])])
def signalbenchref09_Same.B14 : List Nat := [0, 0, 3, 7, 0, 0, 48, 112, 255]
theorem signalbenchref09_Same.tab14 : rtab .any (opsOf Try.f21 14) = signalbenchref09_Same.T14 := by kernel_rfl
theorem signalbenchref09_Same.bits14 : waitsOk signalbenchref09_Same.T14.2 signalbenchref09_Same.B14 = true := by kernel_rfl
set_option maxHeartbeats 8000000 in
set_option maxRecDepth 100000 in
theorem signalbenchref09_Same.calls (k : Nat) (A0_0 : Option Addr) (c0_0 : Nat) (l0_0 : List ByteArray) (A0_1 : Option Addr) (c0_1 : Nat) (l0_1 : List (S46)) (A1_0 : Option Addr) (c1_0 : Nat) (l1_0 : List ByteArray) (A1_1 : Option Addr) (c1_1 : Nat) (l1_1 : List (S46)) (r : Bool) (w : World) (hr0_0 : Kd.C Kd.string w A0_0 l0_0.length l0_0) (hc0_0 : l0_0.length ≤ c0_0) (hr0_1 : Kd.C k46 w A0_1 l0_1.length l0_1) (hc0_1 : l0_1.length ≤ c0_1) (hr1_0 : Kd.C Kd.string w A1_0 l1_0.length l1_0) (hc1_0 : l1_0.length ≤ c1_0) (hr1_1 : Kd.C k46 w A1_1 l1_1.length l1_1) (hc1_1 : l1_1.length ≤ c1_1) (h : signalbenchref09_Same.f k l0_0 l0_1 l1_0 l1_1 = some r) :
  Calls Try.prog 21 #[.agg #[.slice A0_0 l0_0.length c0_0, .slice A0_1 l0_1.length c0_1], .agg #[.slice A1_0 l1_0.length c1_0, .slice A1_1 l1_1.length c1_1]] w fun e w' => e = .returned (.bool r) ∧ Below w.heap.size w w' := by
 have hu25 := Try.underlying25
 have hu46 := Try.underlying46
 have HR0_0 := Aside0.mk hr0_0
 have HC0_0 := Aside0.mk hc0_0
 clear hr0_0 hc0_0
 have HR0_1 := Aside0.mk hr0_1
 have HC0_1 := Aside0.mk hc0_1
 clear hr0_1 hc0_1
 have HR1_0 := Aside0.mk hr1_0
 have HC1_0 := Aside0.mk hc1_0
 clear hr1_0 hc1_0
 have HR1_1 := Aside0.mk hr1_1
 have HC1_1 := Aside0.mk hc1_1
 clear hr1_1 hc1_1
 have HB := Aside0.mk (Below.refl w.heap.size w)
 have H : ((signalbenchref09_Good.f k l0_0 l0_1).bind fun t415 => (if t415 = true then ((signalbenchref09_Good.f k l1_0 l1_1).bind fun t416 => (if t416 = true then (signalbenchref09_Same.j0 k ((l0_0.length : Int) != (l1_0.length : Int)) l0_0 l0_1 l1_0 l1_1) else (signalbenchref09_Same.j0 k true l0_0 l0_1 l1_0 l1_1))) else (signalbenchref09_Same.j0 k true l0_0 l0_1 l1_0 l1_1))) = some r := h
 clear h
 have HC3 := Aside0.mk H
 clear H
 go_enter Try.func21, Try.ntmps21
 go_upto_region 1 with (first | ((with_reducible refine gate_dst (N := 2) rfl ?_); (try (refine gate_guard (by rfl) ?_; dsimp only)); refine box_event ?hg (N := 2) ?hd (cs := #[.slice A0_0 l0_0.length c0_0, .slice A0_1 l0_1.length c0_1]) (t := 25) ?hr ?_; (case hd => rfl); (case hg => rfl); (case hr => first | (go_simp; done) | (go_simp; rfl)); intro gb413 hg w4 hbox hb; have n0_ := Aside0.mk (below_step (bs HB.out) hb); have n1_ := Aside0.mk (hbox); have n2_ := Aside0.mk ((by rw [hg]; exact (below_size (bs HB.out)) : w.heap.size ≤ gb413)); have n3_ := n2_; clear HB; have HB := n0_; have BK413 := n1_; have GW413 := n2_; have GE413 := n3_; clear n0_ n1_ n2_ n3_; clear hb hbox hg) | ((with_reducible refine gate_dst (N := 3) rfl ?_); (try (refine gate_guard (by rfl) ?_; dsimp only)); refine box_event ?hg (N := 3) ?hd (cs := #[.slice A1_0 l1_0.length c1_0, .slice A1_1 l1_1.length c1_1]) (t := 25) ?hr ?_; (case hd => rfl); (case hg => rfl); (case hr => first | (go_simp; done) | (go_simp; rfl)); intro gb414 hg w5 hbox hb; have n0_ := Aside0.mk (blk_below (bg BK413.out) hb); have n1_ := Aside0.mk (below_step (bs HB.out) hb); have n2_ := Aside0.mk (hbox); have n3_ := Aside0.mk ((by rw [hg]; exact (below_size (bs HB.out)) : w.heap.size ≤ gb414)); have n4_ := n3_; have n5_ := Aside0.mk ((by rw [hg]; exact Nat.ne_of_lt (blk_lt (bg BK413.out)) : gb413 ≠ gb414)); have n6_ := Aside0.mk ((by rw [hg]; exact Nat.ne_of_gt (blk_lt (bg BK413.out)) : gb414 ≠ gb413)); clear BK413; clear HB; have BK413 := n0_; have HB := n1_; have BK414 := n2_; have GW414 := n3_; have GE414 := n4_; have NB413_414 := n5_; have NB414_413 := n6_; clear n0_ n1_ n2_ n3_ n4_ n5_ n6_; clear hb hbox hg))
 (try simp only [Act.put, List.setIfInBounds_toArray, List.set_cons_zero, List.set_cons_succ])
 go_cut [25] (fun v25 wc => ∃ (kq : Nat) (x25_2 : Bool), v25 = .bool x25_2 ∧ Aside0 (signalbenchref09_Same.j0 kq x25_2 l0_0 l0_1 l1_0 l1_1 = some r) ∧ Aside0 (kq ≤ k) ∧ Aside0 (wc.heap[gb413]? = some (.cells #[(.slice A0_0 l0_0.length c0_0), (.slice A0_1 l0_1.length c0_1)] 25 (0, 0))) ∧ Aside0 (wc.heap[gb414]? = some (.cells #[(.slice A1_0 l1_0.length c1_0), (.slice A1_1 l1_1.length c1_1)] 25 (0, 0))) ∧ Aside0 (Below w.heap.size w wc))
 case first =>
  have H := HC3.out
  clear HC3
  replace H := Option.bind_eq_some_iff.mp H
  obtain ⟨t415, A60, H⟩ := H
  replace H : (if t415 = true then ((signalbenchref09_Good.f k l1_0 l1_1).bind fun t416 => (if t416 = true then (signalbenchref09_Same.j0 k ((l0_0.length : Int) != (l1_0.length : Int)) l0_0 l0_1 l1_0 l1_1) else (signalbenchref09_Same.j0 k true l0_0 l0_1 l1_0 l1_1))) else (signalbenchref09_Same.j0 k true l0_0 l0_1 l1_0 l1_1)) = some r := H
  have A6 := Aside0.mk A60
  clear A60
  by_cases c7 : t415 = true
  ·
   subst c7
   have H1 : ((signalbenchref09_Good.f k l1_0 l1_1).bind fun t416 => (if t416 = true then (signalbenchref09_Same.j0 k ((l0_0.length : Int) != (l1_0.length : Int)) l0_0 l0_1 l1_0 l1_1) else (signalbenchref09_Same.j0 k true l0_0 l0_1 l1_0 l1_1))) = some r := by rw [if_pos rfl] at H; exact H
   clear H
   have H := H1
   clear H1
   replace H := Option.bind_eq_some_iff.mp H
   obtain ⟨t416, A80, H⟩ := H
   replace H : (if t416 = true then (signalbenchref09_Same.j0 k ((l0_0.length : Int) != (l1_0.length : Int)) l0_0 l0_1 l1_0 l1_1) else (signalbenchref09_Same.j0 k true l0_0 l0_1 l1_0 l1_1)) = some r := H
   have A8 := Aside0.mk A80
   clear A80
   by_cases c9 : t416 = true
   ·
    subst c9
    have H1 : (signalbenchref09_Same.j0 k ((l0_0.length : Int) != (l1_0.length : Int)) l0_0 l0_1 l1_0 l1_1) = some r := by rw [if_pos rfl] at H; exact H
    clear H
    have H := H1
    clear H1
    have H' := Aside0.mk H
    clear H
    have hnb10 := NB413_414.out
    have hnc10 := NB414_413.out
    obtain ⟨hcz11_0, hcz11_1⟩ := bc2 BK413.out
    obtain ⟨hfz11_0, hfz11_1⟩ := bf2 BK413.out
    go_wp2_with (first | ((with_reducible refine gate_callee (f := 20) rfl ?_); refine goesL_ (some 10) rfl rfl Try.func20 (by kernel_rfl) rfl #[.agg #[.slice A0_0 l0_0.length c0_0, .slice A0_1 l0_1.length c0_1]] rfl (by (try simp only [List.map_toArray, List.map_cons, List.map_nil]); first | done | rfl | (simp only [List.length_drop, List.length_take]; rfl)) ?_; (with_reducible refine (signalbenchref09_Good.calls k _ _ l0_0 _ _ l0_1 true _ ?side1 ?side2 ?side3 ?side4 A6.out).mono ?_); (case side1 => repeat (first | exact (Kd.C_below HR0_0.out HB.out) | (with_reducible refine Kd.C_alloc ?_ _) | (with_reducible refine Kd.C_drewN ?_ _) | (with_reducible refine Kd.C_drew ?_))); (case side2 => exact HC0_0.out); (case side3 => repeat (first | exact (Kd.C_below HR0_1.out HB.out) | (with_reducible refine Kd.C_alloc ?_ _) | (with_reducible refine Kd.C_drewN ?_ _) | (with_reducible refine Kd.C_drew ?_))); (case side4 => exact HC0_1.out); rintro e w12 ⟨rfl, hb⟩; refine ⟨_, rfl, ?_⟩; have n0_ := Aside0.mk (blk_below (bg BK413.out) hb); have n1_ := Aside0.mk (blk_below (bg BK414.out) hb); have n2_ := Aside0.mk (below_step (bs HB.out) hb); clear BK413; clear BK414; clear HB; have BK413 := n0_; have BK414 := n1_; have HB := n2_; clear n0_ n1_ n2_; (try clear hb); (try clear hb2); (try clear hk); (try clear hi); obtain ⟨hcz13_0, hcz13_1⟩ := bc2 BK414.out; obtain ⟨hfz13_0, hfz13_1⟩ := bf2 BK414.out) | (go_at_call 20; (with_reducible refine (signalbenchref09_Good.calls k _ _ l1_0 _ _ l1_1 true _ ?side1 ?side2 ?side3 ?side4 A8.out).mono ?_); (case side1 => repeat (first | exact (Kd.C_below HR1_0.out HB.out) | (with_reducible refine Kd.C_alloc ?_ _) | (with_reducible refine Kd.C_drewN ?_ _) | (with_reducible refine Kd.C_drew ?_))); (case side2 => exact HC1_0.out); (case side3 => repeat (first | exact (Kd.C_below HR1_1.out HB.out) | (with_reducible refine Kd.C_alloc ?_ _) | (with_reducible refine Kd.C_drewN ?_ _) | (with_reducible refine Kd.C_drew ?_))); (case side4 => exact HC1_1.out); rintro e w14 ⟨rfl, hb⟩; have n0_ := Aside0.mk (blk_below (bg BK413.out) hb); have n1_ := Aside0.mk (blk_below (bg BK414.out) hb); have n2_ := Aside0.mk (below_step (bs HB.out) hb); clear BK413; clear BK414; clear HB; have BK413 := n0_; have BK414 := n1_; have HB := n2_; clear n0_ n1_ n2_; (try clear hb); (try clear hb2); (try clear hk); (try clear hi); obtain ⟨hcz15_0, hcz15_1⟩ := bc2 BK413.out; obtain ⟨hfz15_0, hfz15_1⟩ := bf2 BK413.out; obtain ⟨hcz16_0, hcz16_1⟩ := bc2 BK414.out; obtain ⟨hfz16_0, hfz16_1⟩ := bf2 BK414.out))
    go_meet
    case rel => exact ⟨_, (((l0_0.length : Int) != (l1_0.length : Int))), (by first | rfl | (simp; done) | (simp [*]; done)), H', ⟨by first | omega | exact Nat.le_refl _⟩, ⟨bg BK413.out⟩, ⟨bg BK414.out⟩, ⟨bs HB.out⟩⟩
   ·
    replace c9 := Bool.eq_false_iff.mpr c9
    subst c9
    have H1 : (signalbenchref09_Same.j0 k true l0_0 l0_1 l1_0 l1_1) = some r := by rw [if_neg (show ¬ (false = true) by decide)] at H; exact H
    clear H
    have H := H1
    clear H1
    have H' := Aside0.mk H
    clear H
    have hnb17 := NB413_414.out
    have hnc17 := NB414_413.out
    obtain ⟨hcz18_0, hcz18_1⟩ := bc2 BK413.out
    obtain ⟨hfz18_0, hfz18_1⟩ := bf2 BK413.out
    go_wp2_with (first | ((with_reducible refine gate_callee (f := 20) rfl ?_); refine goesL_ (some 10) rfl rfl Try.func20 (by kernel_rfl) rfl #[.agg #[.slice A0_0 l0_0.length c0_0, .slice A0_1 l0_1.length c0_1]] rfl (by (try simp only [List.map_toArray, List.map_cons, List.map_nil]); first | done | rfl | (simp only [List.length_drop, List.length_take]; rfl)) ?_; (with_reducible refine (signalbenchref09_Good.calls k _ _ l0_0 _ _ l0_1 true _ ?side1 ?side2 ?side3 ?side4 A6.out).mono ?_); (case side1 => repeat (first | exact (Kd.C_below HR0_0.out HB.out) | (with_reducible refine Kd.C_alloc ?_ _) | (with_reducible refine Kd.C_drewN ?_ _) | (with_reducible refine Kd.C_drew ?_))); (case side2 => exact HC0_0.out); (case side3 => repeat (first | exact (Kd.C_below HR0_1.out HB.out) | (with_reducible refine Kd.C_alloc ?_ _) | (with_reducible refine Kd.C_drewN ?_ _) | (with_reducible refine Kd.C_drew ?_))); (case side4 => exact HC0_1.out); rintro e w19 ⟨rfl, hb⟩; refine ⟨_, rfl, ?_⟩; have n0_ := Aside0.mk (blk_below (bg BK413.out) hb); have n1_ := Aside0.mk (blk_below (bg BK414.out) hb); have n2_ := Aside0.mk (below_step (bs HB.out) hb); clear BK413; clear BK414; clear HB; have BK413 := n0_; have BK414 := n1_; have HB := n2_; clear n0_ n1_ n2_; (try clear hb); (try clear hb2); (try clear hk); (try clear hi); obtain ⟨hcz20_0, hcz20_1⟩ := bc2 BK414.out; obtain ⟨hfz20_0, hfz20_1⟩ := bf2 BK414.out) | (go_at_call 20; (with_reducible refine (signalbenchref09_Good.calls k _ _ l1_0 _ _ l1_1 false _ ?side1 ?side2 ?side3 ?side4 A8.out).mono ?_); (case side1 => repeat (first | exact (Kd.C_below HR1_0.out HB.out) | (with_reducible refine Kd.C_alloc ?_ _) | (with_reducible refine Kd.C_drewN ?_ _) | (with_reducible refine Kd.C_drew ?_))); (case side2 => exact HC1_0.out); (case side3 => repeat (first | exact (Kd.C_below HR1_1.out HB.out) | (with_reducible refine Kd.C_alloc ?_ _) | (with_reducible refine Kd.C_drewN ?_ _) | (with_reducible refine Kd.C_drew ?_))); (case side4 => exact HC1_1.out); rintro e w21 ⟨rfl, hb⟩; have n0_ := Aside0.mk (blk_below (bg BK413.out) hb); have n1_ := Aside0.mk (blk_below (bg BK414.out) hb); have n2_ := Aside0.mk (below_step (bs HB.out) hb); clear BK413; clear BK414; clear HB; have BK413 := n0_; have BK414 := n1_; have HB := n2_; clear n0_ n1_ n2_; (try clear hb); (try clear hb2); (try clear hk); (try clear hi)))
    go_meet
    case rel => exact ⟨_, (true), (by first | rfl | (simp; done) | (simp [*]; done)), H', ⟨by first | omega | exact Nat.le_refl _⟩, ⟨bg BK413.out⟩, ⟨bg BK414.out⟩, ⟨bs HB.out⟩⟩
  ·
   replace c7 := Bool.eq_false_iff.mpr c7
   subst c7
   have H1 : (signalbenchref09_Same.j0 k true l0_0 l0_1 l1_0 l1_1) = some r := by rw [if_neg (show ¬ (false = true) by decide)] at H; exact H
   clear H
   have H := H1
   clear H1
   have H' := Aside0.mk H
   clear H
   have hnb22 := NB413_414.out
   have hnc22 := NB414_413.out
   obtain ⟨hcz23_0, hcz23_1⟩ := bc2 BK413.out
   obtain ⟨hfz23_0, hfz23_1⟩ := bf2 BK413.out
   go_wp2_with (first | ((with_reducible refine gate_callee (f := 20) rfl ?_); refine goesL_ (some 10) rfl rfl Try.func20 (by kernel_rfl) rfl #[.agg #[.slice A0_0 l0_0.length c0_0, .slice A0_1 l0_1.length c0_1]] rfl (by (try simp only [List.map_toArray, List.map_cons, List.map_nil]); first | done | rfl | (simp only [List.length_drop, List.length_take]; rfl)) ?_; (with_reducible refine (signalbenchref09_Good.calls k _ _ l0_0 _ _ l0_1 false _ ?side1 ?side2 ?side3 ?side4 A6.out).mono ?_); (case side1 => repeat (first | exact (Kd.C_below HR0_0.out HB.out) | (with_reducible refine Kd.C_alloc ?_ _) | (with_reducible refine Kd.C_drewN ?_ _) | (with_reducible refine Kd.C_drew ?_))); (case side2 => exact HC0_0.out); (case side3 => repeat (first | exact (Kd.C_below HR0_1.out HB.out) | (with_reducible refine Kd.C_alloc ?_ _) | (with_reducible refine Kd.C_drewN ?_ _) | (with_reducible refine Kd.C_drew ?_))); (case side4 => exact HC0_1.out); rintro e w24 ⟨rfl, hb⟩; refine ⟨_, rfl, ?_⟩; have n0_ := Aside0.mk (blk_below (bg BK413.out) hb); have n1_ := Aside0.mk (blk_below (bg BK414.out) hb); have n2_ := Aside0.mk (below_step (bs HB.out) hb); clear BK413; clear BK414; clear HB; have BK413 := n0_; have BK414 := n1_; have HB := n2_; clear n0_ n1_ n2_; (try clear hb); (try clear hb2); (try clear hk); (try clear hi)))
   go_meet
   case rel => exact ⟨_, (true), (by first | rfl | (simp; done) | (simp [*]; done)), H', ⟨by first | omega | exact Nat.le_refl _⟩, ⟨bg BK413.out⟩, ⟨bg BK414.out⟩, ⟨bs HB.out⟩⟩
 case rest =>
  clear HC3
  try clear c1
  try clear c2
  try clear p2
  try clear c7
  try clear c9
  try clear c10
  try clear c17
  try clear c20
  try clear c21
  try clear c22
  try clear hcz11_0 hcz11_1
  try clear hcz13_0 hcz13_1
  try clear hcz15_0 hcz15_1
  try clear hcz16_0 hcz16_1
  try clear hcz18_0 hcz18_1
  try clear hcz20_0 hcz20_1
  try clear hcz23_0 hcz23_1
  try clear hfz11_0 hfz11_1
  try clear hfz13_0 hfz13_1
  try clear hfz15_0 hfz15_1
  try clear hfz16_0 hfz16_1
  try clear hfz18_0 hfz18_1
  try clear hfz20_0 hfz20_1
  try clear hfz23_0 hfz23_1
  obtain ⟨kq, x25_2, rfl, HA, HJ2, BK413, BK414, HB⟩ := hcut
  cases kq with
  | zero => exact absurd HA.out (by simp [signalbenchref09_Same.j0])
  | succ kj2 =>
   have H := HA.out
   clear HA
   simp only [signalbenchref09_Same.j0] at H
   by_cases c25 : x25_2 = true
   ·
    subst c25
    have H1 : (some false) = some r := by rw [if_pos rfl] at H; exact H
    clear H
    have H := H1
    clear H1
    obtain rfl := Option.some.inj H
    go_wp2
    go_ret
    exact ⟨by first | rfl | (simp [errW_none, errW_some] <;> rfl) | (simp [*, errW_none, errW_some] <;> rfl), bs HB.out⟩
   ·
    replace c25 := Bool.eq_false_iff.mpr c25
    subst c25
    have H1 : (signalbenchref09_Same.l0 kj2 0 l0_0 l0_1 l1_0 l1_1) = some r := by rw [if_neg (show ¬ (false = true) by decide)] at H; exact H
    clear H
    have H := H1
    clear H1
    have H' := Aside0.mk H
    clear H
    go_wp2
    go_loopg [5] kj2 (fun kq v5 w' => ∃ (x5_2 : Int), v5 = .int .i64 x5_2 ∧ Aside0 (signalbenchref09_Same.l0 kq x5_2 l0_0 l0_1 l1_0 l1_1 = some r) ∧ Aside0 (kq ≤ kj2) ∧ Aside0 (w'.heap[gb413]? = some (.cells #[(.slice A0_0 l0_0.length c0_0), (.slice A0_1 l0_1.length c0_1)] 25 (0, 0))) ∧ Aside0 (w'.heap[gb414]? = some (.cells #[(.slice A1_0 l1_0.length c1_0), (.slice A1_1 l1_1.length c1_1)] 25 (0, 0))) ∧ Aside0 (Below w.heap.size w w'))
    case atStart => exact ⟨(0), (by first | rfl | (simp; done) | (simp [*]; done)), H', ⟨Nat.le_refl _⟩, ⟨bg BK413.out⟩, ⟨bg BK414.out⟩, ⟨bs HB.out⟩⟩
    case round =>
     clear H'
     try clear c1
     try clear c2
     try clear p2
     try clear c7
     try clear c9
     try clear c10
     try clear c17
     try clear c20
     try clear c21
     try clear c22
     try clear c25
     try clear hcz11_0 hcz11_1
     try clear hcz13_0 hcz13_1
     try clear hcz15_0 hcz15_1
     try clear hcz16_0 hcz16_1
     try clear hcz18_0 hcz18_1
     try clear hcz20_0 hcz20_1
     try clear hcz23_0 hcz23_1
     try clear hfz11_0 hfz11_1
     try clear hfz13_0 hfz13_1
     try clear hfz15_0 hfz15_1
     try clear hfz16_0 hfz16_1
     try clear hfz18_0 hfz18_1
     try clear hfz20_0 hfz20_1
     try clear hfz23_0 hfz23_1
     try clear p2
     obtain ⟨x5_2, rfl, HA, HK2, BK413, BK414, HB⟩ := hrel
     cases gk with
     | zero => exact absurd HA.out (by simp [signalbenchref09_Same.l0])
     | succ k2 =>
      have H := HA.out
      clear HA
      simp only [signalbenchref09_Same.l0] at H
      by_cases c26 : x5_2 < (l0_0.length : Int)
      ·
       rw [if_pos c26] at H
       have c26b0 : decide (x5_2 < (l0_0.length : Int)) = true := decide_eq_true c26
       clear c26
       by_cases c27 : 0 ≤ x5_2
       ·
        rw [if_pos c27] at H
        have c27b0 : decide (0 ≤ x5_2) = true := decide_eq_true c27
        clear c27
        by_cases c28 : x5_2 < (l1_0.length : Int)
        ·
         rw [if_pos c28] at H
         have c28b0 : decide (x5_2 < (l1_0.length : Int)) = true := decide_eq_true c28
         clear c28
         by_cases c29 : (rdOf ByteArray.empty l0_0 x5_2).toList = (rdOf ByteArray.empty l1_0 x5_2).toList
         ·
          rw [if_pos c29] at H
          have c29b0 : ((rdOf ByteArray.empty l0_0 x5_2).toList == (rdOf ByteArray.empty l1_0 x5_2).toList) = true := beq_iff_eq.mpr c29
          have c29b1 : ((rdOf ByteArray.empty l0_0 x5_2).toList != (rdOf ByteArray.empty l1_0 x5_2).toList) = false := bne_eq_false_iff_eq.mpr c29
          clear c29
          have H' := Aside0.mk H
          clear H
          have hnb30 := NB413_414.out
          have hnc30 := NB414_413.out
          obtain ⟨hcz31_0, hcz31_1⟩ := bc2 BK413.out
          obtain ⟨hfz31_0, hfz31_1⟩ := bf2 BK413.out
          try go_wp2
          have n0_ := Aside0.mk (blk_drew BK413.out)
          have n1_ := Aside0.mk (blk_drew BK414.out)
          have n2_ := Aside0.mk (below_drew1 HB.out)
          clear BK413
          clear BK414
          clear HB
          have BK413 := n0_
          have BK414 := n1_
          have HB := n2_
          clear n0_ n1_ n2_
          have p417 : 0 ≤ (x5_2 : Int) := of_decide_eq_true (by first | (with_reducible assumption) | assumption)
          have q417 : x5_2 < (l0_0.length : Int) := of_decide_eq_true (by first | (with_reducible assumption) | assumption)
          obtain ⟨ad417, e417, hx417_0⟩ := Kd.at_string HR0_0.out x5_2 p417 q417
          have hw417_0 := hx417_0
          cases e417
          replace hx417_0 := pw_cell_below HB.out hx417_0
          replace p417 := eq_true p417
          replace q417 := eq_true q417
          have p418 : 0 ≤ (x5_2 : Int) := of_decide_eq_true (by first | (with_reducible assumption) | assumption)
          have q418 : x5_2 < (l1_0.length : Int) := of_decide_eq_true (by first | (with_reducible assumption) | assumption)
          obtain ⟨ad418, e418, hx418_0⟩ := Kd.at_string HR1_0.out x5_2 p418 q418
          have hw418_0 := hx418_0
          cases e418
          replace hx418_0 := pw_cell_below HB.out hx418_0
          replace p418 := eq_true p418
          replace q418 := eq_true q418
          refine start_ (n := 11) (S := fun w' => w'.cell? ⟨gb413, 0, none⟩ = some (.slice (some ad417) l0_0.length c0_0) ∧ w'.cell? ⟨gb413, 1, none⟩ = some (.slice A0_1 l0_1.length c0_1) ∧ w'.cell? ⟨gb414, 0, none⟩ = some (.slice (some ad418) l1_0.length c1_0) ∧ w'.cell? ⟨gb414, 1, none⟩ = some (.slice A1_1 l1_1.length c1_1) ∧ w'.cell? (ad417.add (x5_2).toNat) = some (.string (rdOf ByteArray.empty l0_0 x5_2)) ∧ w'.cell? (ad418.add (x5_2).toNat) = some (.string (rdOf ByteArray.empty l1_0 x5_2))) (ds := []) (bsq 0 11) (by kernel_rfl) rfl rfl ⟨(blk_cell BK413.out 0).trans rfl, (blk_cell BK413.out 1).trans rfl, (blk_cell BK414.out 0).trans rfl, (blk_cell BK414.out 1).trans rfl, ((HB.out.cell (World.block_lt_of_cell? w _ hw417_0)).trans hw417_0), ((HB.out.cell (World.block_lt_of_cell? w _ hw418_0)).trans hw418_0)⟩ (fun hHeld => ?_); refine with_tabW signalbenchref09_Same.tab6 signalbenchref09_Same.bits6 (fun HT_ HW_ => ?_)
          generalize wr.drew = w32 at BK413 BK414 HB hx417_0 hx418_0 hHeld ⊢
          refine pu 0 33 (bsq 1 10) ?_
          refine pu 2 35 (bls [1, 1, 1, 8]) ?_
          refine pu 5 38 (bls [1, 1, 1, 2, 1, 5]) ?_
          refine pu 7 40 (bls [1, 1, 1, 2, 1, 1, 1, 3]) ?_
          refine tk 1 34 (bls [3, 2, 1, 1, 1, 3]) hHeld ?_ (he := by rintro w' ⟨s0, s1, s2, s3, s4, s5⟩; go_simp; with_reducible rfl)
          refine pu 3 36 (bls [4, 1, 1, 1, 1, 3]) ?_
          refine tk 4 37 (bls [6, 1, 1, 3]) hHeld ?_ (he := by rintro w' ⟨s0, s1, s2, s3, s4, s5⟩; go_simp; with_reducible rfl)
          refine tk 6 39 (bsq 8 3) hHeld ?_ (he := by rintro w' ⟨s0, s1, s2, s3, s4, s5⟩; go_simp; with_reducible rfl)
          refine pu 8 41 (bsq 9 2) ?_
          refine tk 9 42 (bsq 10 1) hHeld ?_ (he := by rintro w' ⟨s0, s1, s2, s3, s4, s5⟩; go_simp; with_reducible rfl)
          refine pu 10 43 (bsq 11 0) ?_
          refine done_ (done_of HT_.out (by kernel_rfl)) ?_
          try go_wp2
          go_roundg k2
          case measure => have := HJ2.out; have := HK2.out; omega
          case rel => exact ⟨(wrap64 (x5_2 + 1)), (by first | rfl | (simp; done) | (simp [*]; done)), H', ⟨by have := HJ2.out; have := HK2.out; omega⟩, ⟨bg BK413.out⟩, ⟨bg BK414.out⟩, ⟨bs HB.out⟩⟩
         ·
          rw [if_neg c29] at H
          have c29b0 : ((rdOf ByteArray.empty l0_0 x5_2).toList == (rdOf ByteArray.empty l1_0 x5_2).toList) = false := beq_eq_false_iff_ne.mpr c29
          have c29b1 : ((rdOf ByteArray.empty l0_0 x5_2).toList != (rdOf ByteArray.empty l1_0 x5_2).toList) = true := bne_iff_ne.mpr c29
          obtain rfl := Option.some.inj H
          have hnb33 := NB413_414.out
          have hnc33 := NB414_413.out
          obtain ⟨hcz34_0, hcz34_1⟩ := bc2 BK413.out
          obtain ⟨hfz34_0, hfz34_1⟩ := bf2 BK413.out
          try go_wp2
          have n0_ := Aside0.mk (blk_drew BK413.out)
          have n1_ := Aside0.mk (blk_drew BK414.out)
          have n2_ := Aside0.mk (below_drew1 HB.out)
          clear BK413
          clear BK414
          clear HB
          have BK413 := n0_
          have BK414 := n1_
          have HB := n2_
          clear n0_ n1_ n2_
          have p417 : 0 ≤ (x5_2 : Int) := of_decide_eq_true (by first | (with_reducible assumption) | assumption)
          have q417 : x5_2 < (l0_0.length : Int) := of_decide_eq_true (by first | (with_reducible assumption) | assumption)
          obtain ⟨ad417, e417, hx417_0⟩ := Kd.at_string HR0_0.out x5_2 p417 q417
          have hw417_0 := hx417_0
          cases e417
          replace hx417_0 := pw_cell_below HB.out hx417_0
          replace p417 := eq_true p417
          replace q417 := eq_true q417
          have p418 : 0 ≤ (x5_2 : Int) := of_decide_eq_true (by first | (with_reducible assumption) | assumption)
          have q418 : x5_2 < (l1_0.length : Int) := of_decide_eq_true (by first | (with_reducible assumption) | assumption)
          obtain ⟨ad418, e418, hx418_0⟩ := Kd.at_string HR1_0.out x5_2 p418 q418
          have hw418_0 := hx418_0
          cases e418
          replace hx418_0 := pw_cell_below HB.out hx418_0
          replace p418 := eq_true p418
          replace q418 := eq_true q418
          refine start_ (n := 11) (S := fun w' => w'.cell? ⟨gb413, 0, none⟩ = some (.slice (some ad417) l0_0.length c0_0) ∧ w'.cell? ⟨gb413, 1, none⟩ = some (.slice A0_1 l0_1.length c0_1) ∧ w'.cell? ⟨gb414, 0, none⟩ = some (.slice (some ad418) l1_0.length c1_0) ∧ w'.cell? ⟨gb414, 1, none⟩ = some (.slice A1_1 l1_1.length c1_1) ∧ w'.cell? (ad417.add (x5_2).toNat) = some (.string (rdOf ByteArray.empty l0_0 x5_2)) ∧ w'.cell? (ad418.add (x5_2).toNat) = some (.string (rdOf ByteArray.empty l1_0 x5_2))) (ds := []) (bsq 0 11) (by kernel_rfl) rfl rfl ⟨(blk_cell BK413.out 0).trans rfl, (blk_cell BK413.out 1).trans rfl, (blk_cell BK414.out 0).trans rfl, (blk_cell BK414.out 1).trans rfl, ((HB.out.cell (World.block_lt_of_cell? w _ hw417_0)).trans hw417_0), ((HB.out.cell (World.block_lt_of_cell? w _ hw418_0)).trans hw418_0)⟩ (fun hHeld => ?_); refine with_tabW signalbenchref09_Same.tab6 signalbenchref09_Same.bits6 (fun HT_ HW_ => ?_)
          generalize wr.drew = w35 at BK413 BK414 HB hx417_0 hx418_0 hHeld ⊢
          refine pu 0 33 (bsq 1 10) ?_
          refine pu 2 35 (bls [1, 1, 1, 8]) ?_
          refine pu 5 38 (bls [1, 1, 1, 2, 1, 5]) ?_
          refine pu 7 40 (bls [1, 1, 1, 2, 1, 1, 1, 3]) ?_
          refine tk 1 34 (bls [3, 2, 1, 1, 1, 3]) hHeld ?_ (he := by rintro w' ⟨s0, s1, s2, s3, s4, s5⟩; go_simp; with_reducible rfl)
          refine pu 3 36 (bls [4, 1, 1, 1, 1, 3]) ?_
          refine tk 4 37 (bls [6, 1, 1, 3]) hHeld ?_ (he := by rintro w' ⟨s0, s1, s2, s3, s4, s5⟩; go_simp; with_reducible rfl)
          refine tk 6 39 (bsq 8 3) hHeld ?_ (he := by rintro w' ⟨s0, s1, s2, s3, s4, s5⟩; go_simp; with_reducible rfl)
          refine pu 8 41 (bsq 9 2) ?_
          refine tk 9 42 (bsq 10 1) hHeld ?_ (he := by rintro w' ⟨s0, s1, s2, s3, s4, s5⟩; go_simp; with_reducible rfl)
          refine pu 10 43 (bsq 11 0) ?_
          refine done_ (done_of HT_.out (by kernel_rfl)) ?_
          try go_wp2
          go_ret
          exact ⟨by first | rfl | (simp [errW_none, errW_some] <;> rfl) | (simp [*, errW_none, errW_some] <;> rfl), bs HB.out⟩
        ·
         rw [if_neg c28] at H
         exact absurd H (by simp)
       ·
        rw [if_neg c27] at H
        exact absurd H (by simp)
      ·
       rw [if_neg c26] at H
       have c26b0 : decide (x5_2 < (l0_0.length : Int)) = false := decide_eq_false c26
       clear c26
       replace H := Option.bind_eq_some_iff.mp H
       obtain ⟨t419, A360, H⟩ := H
       replace H : ((signalbenchref09_Clean.f k2 l1_1).bind fun t422 => (if (t419.length : Int) = (t422.length : Int) then (signalbenchref09_Same.l1 k2 t419 t422 0) else (some false))) = some r := H
       have A36 := Aside0.mk A360
       clear A360
       replace H := Option.bind_eq_some_iff.mp H
       obtain ⟨t422, A370, H⟩ := H
       replace H : (if (t419.length : Int) = (t422.length : Int) then (signalbenchref09_Same.l1 k2 t419 t422 0) else (some false)) = some r := H
       have A37 := Aside0.mk A370
       clear A370
       by_cases c38 : (t419.length : Int) = (t422.length : Int)
       ·
        rw [if_pos c38] at H
        have c38b0 : ((t419.length : Int) == (t422.length : Int)) = true := beq_iff_eq.mpr c38
        have c38b1 : ((t419.length : Int) != (t422.length : Int)) = false := bne_eq_false_iff_eq.mpr c38
        have c38b2 : (t419.length == t422.length) = true := by first | simpa using c38 | (simp at c38 ⊢; omega)
        clear c38
        have H' := Aside0.mk H
        clear H
        have hnb39 := NB413_414.out
        have hnc39 := NB414_413.out
        obtain ⟨hcz40_0, hcz40_1⟩ := bc2 BK413.out
        obtain ⟨hfz40_0, hfz40_1⟩ := bf2 BK413.out
        try go_wp2
        have n0_ := Aside0.mk (blk_drew BK413.out)
        have n1_ := Aside0.mk (blk_drew BK414.out)
        have n2_ := Aside0.mk (below_drew1 HB.out)
        clear BK413
        clear BK414
        clear HB
        have BK413 := n0_
        have BK414 := n1_
        have HB := n2_
        clear n0_ n1_ n2_
        refine start_ (n := 8) (S := fun w' => w'.cell? ⟨gb413, 0, none⟩ = some (.slice A0_0 l0_0.length c0_0) ∧ w'.cell? ⟨gb413, 1, none⟩ = some (.slice A0_1 l0_1.length c0_1) ∧ w'.cell? ⟨gb414, 0, none⟩ = some (.slice A1_0 l1_0.length c1_0) ∧ w'.cell? ⟨gb414, 1, none⟩ = some (.slice A1_1 l1_1.length c1_1)) (ds := []) (bsq 0 8) (by kernel_rfl) rfl rfl ⟨(blk_cell BK413.out 0).trans rfl, (blk_cell BK413.out 1).trans rfl, (blk_cell BK414.out 0).trans rfl, (blk_cell BK414.out 1).trans rfl⟩ (fun hHeld => ?_); refine with_tabW signalbenchref09_Same.tab8 signalbenchref09_Same.bits8 (fun HT_ HW_ => ?_)
        generalize wr.drew = w41 at BK413 BK414 HB hHeld ⊢
        refine pu 0 44 (bsq 1 7) ?_
        refine pu 3 47 (bls [1, 2, 1, 4]) ?_
        refine tk 1 45 (bls [2, 1, 1, 4]) hHeld ?_ (he := by rintro w' ⟨s0, s1, s2, s3⟩; go_simp; with_reducible rfl)
        refine tk 4 48 (bls [2, 1, 2, 3]) hHeld ?_ (he := by rintro w' ⟨s0, s1, s2, s3⟩; go_simp; with_reducible rfl)
        refine one_ (i := 2) (N := some 46) (bsq 5 3) rfl rfl (one_of HT_.out (by kernel_rfl)) (by decide) (fun K hK => ?_)
        refine goes_ Try.func22 (by kernel_rfl) rfl #[.slice A0_1 l0_1.length c0_1] (by rfl) rfl rfl (by (try simp only [List.map_toArray, List.map_cons, List.map_nil]); first | done | rfl | (simp only [List.length_drop, List.length_take]; rfl)) ?_
        with_reducible refine (signalbenchref09_Clean.calls k2 _ _ l0_1 t419 _ ?side1 ?side2 A36.out).mono ?_
        (case side1 => repeat (first | exact (Kd.C_below HR0_1.out HB.out) | (with_reducible refine Kd.C_alloc ?_ _) | (with_reducible refine Kd.C_drewN ?_ _) | (with_reducible refine Kd.C_drew ?_)))
        (case side2 => exact HC0_1.out)
        rintro e w42 ⟨v420, rfl, ho0, hb⟩
        refine ⟨_, rfl, ?_⟩
        have n0_ := Aside0.mk (Kd.R_lower ho0 (below_size (bs HB.out)))
        have n1_ := Aside0.mk (blk_below (bg BK413.out) hb)
        have n2_ := Aside0.mk (blk_below (bg BK414.out) hb)
        have n3_ := Aside0.mk (below_step (bs HB.out) hb)
        clear BK413
        clear BK414
        clear HB
        have HO421 := n0_
        have BK413 := n1_
        have BK414 := n2_
        have HB := n3_
        clear n0_ n1_ n2_ n3_
        (try clear hb)
        (try clear hb2)
        (try clear hk)
        (try clear hi)
        (try clear ho0)
        refine hK.out _ _ ⟨(blk_cell BK413.out 0).trans rfl, (blk_cell BK413.out 1).trans rfl, (blk_cell BK414.out 0).trans rfl, (blk_cell BK414.out 1).trans rfl⟩ (fun hHeld => ?_)
        clear hK K
        refine norm_ (a' := ?_) ?_ ?_
        rotate_left
        ·
         show Act.put _ (some 46) _ = _
         simp only [Act.put, List.setIfInBounds_toArray, List.set_cons_zero, List.set_cons_succ, i64_w, i32_w]
         rfl
        refine one_ (i := 5) (N := some 49) (bsq 6 2) rfl rfl (one_of HT_.out (by kernel_rfl)) (by decide) (fun K hK => ?_)
        refine goes_ Try.func22 (by kernel_rfl) rfl #[.slice A1_1 l1_1.length c1_1] (by rfl) rfl rfl (by (try simp only [List.map_toArray, List.map_cons, List.map_nil]); first | done | rfl | (simp only [List.length_drop, List.length_take]; rfl)) ?_
        with_reducible refine (signalbenchref09_Clean.calls k2 _ _ l1_1 t422 _ ?side1 ?side2 A37.out).mono ?_
        (case side1 => repeat (first | exact (Kd.C_below HR1_1.out HB.out) | (with_reducible refine Kd.C_alloc ?_ _) | (with_reducible refine Kd.C_drewN ?_ _) | (with_reducible refine Kd.C_drew ?_)))
        (case side2 => exact HC1_1.out)
        rintro e w43 ⟨v423, rfl, ho0, hb⟩
        refine ⟨_, rfl, ?_⟩
        have n0_ := Aside0.mk (Kd.R_elder' (rq HO421.out) (Kd.R_base ho0) hb)
        have n1_ := Aside0.mk (Kd.R_lower (Kd.R_new' ho0 (Kd.R_lt (rq HO421.out))) (below_size (bs HB.out)))
        have n2_ := Aside0.mk (blk_below (bg BK413.out) hb)
        have n3_ := Aside0.mk (blk_below (bg BK414.out) hb)
        have n4_ := Aside0.mk (below_step (bs HB.out) hb)
        clear HO421
        clear BK413
        clear BK414
        clear HB
        have HO421 := n0_
        have HO424 := n1_
        have BK413 := n2_
        have BK414 := n3_
        have HB := n4_
        clear n0_ n1_ n2_ n3_ n4_
        (try clear hb)
        (try clear hb2)
        (try clear hk)
        (try clear hi)
        (try clear ho0)
        refine hK.out _ _ ⟨(blk_cell BK413.out 0).trans rfl, (blk_cell BK413.out 1).trans rfl, (blk_cell BK414.out 0).trans rfl, (blk_cell BK414.out 1).trans rfl⟩ (fun hHeld => ?_)
        clear hK K
        refine norm_ (a' := ?_) ?_ ?_
        rotate_left
        ·
         show Act.put _ (some 49) _ = _
         simp only [Act.put, List.setIfInBounds_toArray, List.set_cons_zero, List.set_cons_succ, i64_w, i32_w]
         rfl
        refine pu 6 6 (bsq 7 1) ?_
        refine pu 7 7 (bsq 8 0) ?_
        refine done_ (done_of HT_.out (by kernel_rfl)) ?_
        obtain ⟨Ao44, co44, eo44⟩ := Kd.R_slice HO421.out
        subst eo44
        obtain ⟨Ao45, co45, eo45⟩ := Kd.R_slice HO424.out
        subst eo45
        try go_wp2
        go_loopg [8] k2 (fun kq v8 w' => ∃ (x8_3 : Int), v8 = .int .i64 x8_3 ∧ Aside0 (signalbenchref09_Same.l1 kq t419 t422 x8_3 = some r) ∧ Aside0 (kq ≤ k2) ∧ Aside0 (Kd.R k46 46 w' w.heap.size (fun k_ => some k_ ≠ ((.slice Ao45 t422.length co45) : Value).ownBlock) (.slice Ao44 t419.length co44) t419) ∧ Aside0 (Kd.R k46 46 w' w.heap.size (fun k_ => some k_ ≠ ((.slice Ao44 t419.length co44) : Value).ownBlock) (.slice Ao45 t422.length co45) t422) ∧ Aside0 (w'.heap[gb413]? = some (.cells #[(.slice A0_0 l0_0.length c0_0), (.slice A0_1 l0_1.length c0_1)] 25 (0, 0))) ∧ Aside0 (w'.heap[gb414]? = some (.cells #[(.slice A1_0 l1_0.length c1_0), (.slice A1_1 l1_1.length c1_1)] 25 (0, 0))) ∧ Aside0 (Below w.heap.size w w'))
        case atStart => exact ⟨(0), (by first | rfl | (simp; done) | (simp [*]; done)), H', ⟨Nat.le_refl _⟩, ⟨by (with_reducible repeat (first | apply Kd.R_alloc | apply Kd.R_drewN | apply Kd.R_drew)); exact Kd.R_mono HO421.out (fun _ hk => hk.2)⟩, ⟨by (with_reducible repeat (first | apply Kd.R_alloc | apply Kd.R_drewN | apply Kd.R_drew)); exact Kd.R_mono HO424.out (fun _ hk => hk.2)⟩, ⟨bg BK413.out⟩, ⟨bg BK414.out⟩, ⟨bs HB.out⟩⟩
        case round =>
         clear H'
         try clear c1
         try clear c2
         try clear p2
         try clear c3
         try clear p4
         try clear q4
         try clear hx4
         try clear p6
         try clear c7
         try clear c9
         try clear c10
         try clear c17
         try clear c20
         try clear c21
         try clear c22
         try clear c25
         try clear c26
         try clear c26b0
         try clear c27
         try clear c27b0
         try clear c28
         try clear c28b0
         try clear c29
         try clear c29b0
         try clear c29b1
         try clear c30
         try clear c33
         try clear c38
         try clear c38b0
         try clear c38b1
         try clear c38b2
         try clear c39
         try clear p41
         try clear q41
         try clear hx41
         try clear hcz11_0 hcz11_1
         try clear hcz13_0 hcz13_1
         try clear hcz15_0 hcz15_1
         try clear hcz16_0 hcz16_1
         try clear hcz18_0 hcz18_1
         try clear hcz20_0 hcz20_1
         try clear hcz23_0 hcz23_1
         try clear hcz31_0 hcz31_1
         try clear hcz34_0 hcz34_1
         try clear hcz40_0 hcz40_1
         try clear hfz11_0 hfz11_1
         try clear hfz13_0 hfz13_1
         try clear hfz15_0 hfz15_1
         try clear hfz16_0 hfz16_1
         try clear hfz18_0 hfz18_1
         try clear hfz20_0 hfz20_1
         try clear hfz23_0 hfz23_1
         try clear hfz31_0 hfz31_1
         try clear hfz34_0 hfz34_1
         try clear hfz40_0 hfz40_1
         try clear hx417_0
         try clear hx418_0
         try clear p2
         try clear p417
         try clear p418
         try clear q417
         try clear q418
         obtain ⟨x8_3, rfl, HA, HK3, HO_6, HO_7, BK413, BK414, HB⟩ := hrel
         cases gk with
         | zero => exact absurd HA.out (by simp [signalbenchref09_Same.l1])
         | succ k3 =>
          have H := HA.out
          clear HA
          simp only [signalbenchref09_Same.l1] at H
          by_cases c46 : x8_3 < (t419.length : Int)
          ·
           rw [if_pos c46] at H
           have c46b0 : decide (x8_3 < (t419.length : Int)) = true := decide_eq_true c46
           clear c46
           by_cases c47 : 0 ≤ x8_3
           ·
            rw [if_pos c47] at H
            have c47b0 : decide (0 ≤ x8_3) = true := decide_eq_true c47
            clear c47
            by_cases c48 : x8_3 < (t422.length : Int)
            ·
             rw [if_pos c48] at H
             have c48b0 : decide (x8_3 < (t422.length : Int)) = true := decide_eq_true c48
             clear c48
             by_cases c49 : (!(((rd_T46 t419 x8_3).f0) == ((rd_T46 t422 x8_3).f0)) || (!(((rd_T46 t419 x8_3).f1) == ((rd_T46 t422 x8_3).f1)))) = true
             ·
              rw [if_pos c49] at H
              have c49b0 : (!(((rd_T46 t419 x8_3).f0) == ((rd_T46 t422 x8_3).f0)) || (!(((rd_T46 t419 x8_3).f1) == ((rd_T46 t422 x8_3).f1)))) = true := c49
              clear c49
              obtain rfl := Option.some.inj H
              try go_wp2
              have n0_ := Aside0.mk (Kd.R_drew HO_6.out)
              have n1_ := Aside0.mk (Kd.R_drew HO_7.out)
              have n2_ := Aside0.mk (blk_drew BK413.out)
              have n3_ := Aside0.mk (blk_drew BK414.out)
              have n4_ := Aside0.mk (below_drew1 HB.out)
              clear HO_6
              clear HO_7
              clear BK413
              clear BK414
              clear HB
              have HO_6 := n0_
              have HO_7 := n1_
              have BK413 := n2_
              have BK414 := n3_
              have HB := n4_
              clear n0_ n1_ n2_ n3_ n4_
              have p425 : 0 ≤ (x8_3 : Int) := of_decide_eq_true (by first | (with_reducible assumption) | assumption)
              have q425 : x8_3 < (t419.length : Int) := of_decide_eq_true (by first | (with_reducible assumption) | assumption)
              obtain ⟨ad425, e425, hx425_0, hx425_1⟩ := at_T46 (Kd.R_reads' HO_6.out).2.2 x8_3 p425 q425
              cases e425
              replace p425 := eq_true p425
              replace q425 := eq_true q425
              have p426 : 0 ≤ (x8_3 : Int) := of_decide_eq_true (by first | (with_reducible assumption) | assumption)
              have q426 : x8_3 < (t422.length : Int) := of_decide_eq_true (by first | (with_reducible assumption) | assumption)
              obtain ⟨ad426, e426, hx426_0, hx426_1⟩ := at_T46 (Kd.R_reads' HO_7.out).2.2 x8_3 p426 q426
              cases e426
              replace p426 := eq_true p426
              replace q426 := eq_true q426
              refine start_ (n := 9) (S := fun w' => w'.cell? (ad425.add ((x8_3).toNat * 2)) = some (.int .i64 ((rd_T46 t419 x8_3).f0)) ∧ w'.cell? ⟨(ad425.add ((x8_3).toNat * 2)).block, (ad425.add ((x8_3).toNat * 2)).off + 1, none⟩ = some (.int .i64 ((rd_T46 t419 x8_3).f1)) ∧ w'.cell? (ad426.add ((x8_3).toNat * 2)) = some (.int .i64 ((rd_T46 t422 x8_3).f0)) ∧ w'.cell? ⟨(ad426.add ((x8_3).toNat * 2)).block, (ad426.add ((x8_3).toNat * 2)).off + 1, none⟩ = some (.int .i64 ((rd_T46 t422 x8_3).f1))) (ds := []) (bsq 0 9) (by kernel_rfl) rfl rfl ⟨hx425_0, hx425_1, hx426_0, hx426_1⟩ (fun hHeld => ?_); refine with_tabW signalbenchref09_Same.tab14 signalbenchref09_Same.bits14 (fun HT_ HW_ => ?_)
              generalize wr.drew = w50 at HO_6 HO_7 BK413 BK414 HB hx425_0 hx425_1 hx426_0 hx426_1 hHeld ⊢
              refine pu 0 61 (bsq 1 8) ?_
              refine pu 1 62 (bsq 2 7) ?_
              refine pu 2 63 (bsq 3 6) ?_
              refine pu 4 65 (bls [3, 1, 1, 4]) ?_
              refine pu 5 66 (bls [3, 1, 2, 3]) ?_
              refine pu 6 67 (bls [3, 1, 3, 2]) ?_
              refine tk 3 64 (bsq 7 2) hHeld ?_ (he := by rintro w' ⟨s0, s1, s2, s3⟩; go_simp; with_reducible rfl)
              refine tk 7 68 (bsq 8 1) hHeld ?_ (he := by rintro w' ⟨s0, s1, s2, s3⟩; go_simp; with_reducible rfl)
              refine pu 8 69 (bsq 9 0) ?_
              refine done_ (done_of HT_.out (by kernel_rfl)) ?_
              try go_wp2
              go_ret
              exact ⟨by first | rfl | (simp [errW_none, errW_some] <;> rfl) | (simp [*, errW_none, errW_some] <;> rfl), bs HB.out⟩
             ·
              rw [if_neg c49] at H
              have c49b0 : (!(((rd_T46 t419 x8_3).f0) == ((rd_T46 t422 x8_3).f0)) || (!(((rd_T46 t419 x8_3).f1) == ((rd_T46 t422 x8_3).f1)))) = false := by simpa using c49
              clear c49
              have H' := Aside0.mk H
              clear H
              try go_wp2
              have n0_ := Aside0.mk (Kd.R_drew HO_6.out)
              have n1_ := Aside0.mk (Kd.R_drew HO_7.out)
              have n2_ := Aside0.mk (blk_drew BK413.out)
              have n3_ := Aside0.mk (blk_drew BK414.out)
              have n4_ := Aside0.mk (below_drew1 HB.out)
              clear HO_6
              clear HO_7
              clear BK413
              clear BK414
              clear HB
              have HO_6 := n0_
              have HO_7 := n1_
              have BK413 := n2_
              have BK414 := n3_
              have HB := n4_
              clear n0_ n1_ n2_ n3_ n4_
              have p425 : 0 ≤ (x8_3 : Int) := of_decide_eq_true (by first | (with_reducible assumption) | assumption)
              have q425 : x8_3 < (t419.length : Int) := of_decide_eq_true (by first | (with_reducible assumption) | assumption)
              obtain ⟨ad425, e425, hx425_0, hx425_1⟩ := at_T46 (Kd.R_reads' HO_6.out).2.2 x8_3 p425 q425
              cases e425
              replace p425 := eq_true p425
              replace q425 := eq_true q425
              have p426 : 0 ≤ (x8_3 : Int) := of_decide_eq_true (by first | (with_reducible assumption) | assumption)
              have q426 : x8_3 < (t422.length : Int) := of_decide_eq_true (by first | (with_reducible assumption) | assumption)
              obtain ⟨ad426, e426, hx426_0, hx426_1⟩ := at_T46 (Kd.R_reads' HO_7.out).2.2 x8_3 p426 q426
              cases e426
              replace p426 := eq_true p426
              replace q426 := eq_true q426
              refine start_ (n := 9) (S := fun w' => w'.cell? (ad425.add ((x8_3).toNat * 2)) = some (.int .i64 ((rd_T46 t419 x8_3).f0)) ∧ w'.cell? ⟨(ad425.add ((x8_3).toNat * 2)).block, (ad425.add ((x8_3).toNat * 2)).off + 1, none⟩ = some (.int .i64 ((rd_T46 t419 x8_3).f1)) ∧ w'.cell? (ad426.add ((x8_3).toNat * 2)) = some (.int .i64 ((rd_T46 t422 x8_3).f0)) ∧ w'.cell? ⟨(ad426.add ((x8_3).toNat * 2)).block, (ad426.add ((x8_3).toNat * 2)).off + 1, none⟩ = some (.int .i64 ((rd_T46 t422 x8_3).f1))) (ds := []) (bsq 0 9) (by kernel_rfl) rfl rfl ⟨hx425_0, hx425_1, hx426_0, hx426_1⟩ (fun hHeld => ?_); refine with_tabW signalbenchref09_Same.tab14 signalbenchref09_Same.bits14 (fun HT_ HW_ => ?_)
              generalize wr.drew = w51 at HO_6 HO_7 BK413 BK414 HB hx425_0 hx425_1 hx426_0 hx426_1 hHeld ⊢
              refine pu 0 61 (bsq 1 8) ?_
              refine pu 1 62 (bsq 2 7) ?_
              refine pu 2 63 (bsq 3 6) ?_
              refine pu 4 65 (bls [3, 1, 1, 4]) ?_
              refine pu 5 66 (bls [3, 1, 2, 3]) ?_
              refine pu 6 67 (bls [3, 1, 3, 2]) ?_
              refine tk 3 64 (bsq 7 2) hHeld ?_ (he := by rintro w' ⟨s0, s1, s2, s3⟩; go_simp; with_reducible rfl)
              refine tk 7 68 (bsq 8 1) hHeld ?_ (he := by rintro w' ⟨s0, s1, s2, s3⟩; go_simp; with_reducible rfl)
              refine pu 8 69 (bsq 9 0) ?_
              refine done_ (done_of HT_.out (by kernel_rfl)) ?_
              try go_wp2
              go_roundg k3
              case measure => have := HJ2.out; have := HK2.out; have := HK3.out; omega
              case rel => exact ⟨(wrap64 (x8_3 + 1)), (by first | rfl | (simp; done) | (simp [*]; done)), H', ⟨by have := HJ2.out; have := HK2.out; have := HK3.out; omega⟩, ⟨by (with_reducible repeat (first | apply Kd.R_alloc | apply Kd.R_drewN | apply Kd.R_drew)); exact HO_6.out⟩, ⟨by (with_reducible repeat (first | apply Kd.R_alloc | apply Kd.R_drewN | apply Kd.R_drew)); exact HO_7.out⟩, ⟨bg BK413.out⟩, ⟨bg BK414.out⟩, ⟨bs HB.out⟩⟩
            ·
             rw [if_neg c48] at H
             exact absurd H (by simp)
           ·
            rw [if_neg c47] at H
            exact absurd H (by simp)
          ·
           rw [if_neg c46] at H
           have c46b0 : decide (x8_3 < (t419.length : Int)) = false := decide_eq_false c46
           clear c46
           obtain rfl := Option.some.inj H
           go_wp2
           go_ret
           exact ⟨by first | rfl | (simp [errW_none, errW_some] <;> rfl) | (simp [*, errW_none, errW_some] <;> rfl), bs HB.out⟩
       ·
        rw [if_neg c38] at H
        have c38b0 : ((t419.length : Int) == (t422.length : Int)) = false := beq_eq_false_iff_ne.mpr c38
        have c38b1 : ((t419.length : Int) != (t422.length : Int)) = true := bne_iff_ne.mpr c38
        have c38b2 : (t419.length == t422.length) = false := by first | simpa using c38 | (simp at c38 ⊢; omega)
        obtain rfl := Option.some.inj H
        have hnb52 := NB413_414.out
        have hnc52 := NB414_413.out
        obtain ⟨hcz53_0, hcz53_1⟩ := bc2 BK413.out
        obtain ⟨hfz53_0, hfz53_1⟩ := bf2 BK413.out
        try go_wp2
        have n0_ := Aside0.mk (blk_drew BK413.out)
        have n1_ := Aside0.mk (blk_drew BK414.out)
        have n2_ := Aside0.mk (below_drew1 HB.out)
        clear BK413
        clear BK414
        clear HB
        have BK413 := n0_
        have BK414 := n1_
        have HB := n2_
        clear n0_ n1_ n2_
        refine start_ (n := 8) (S := fun w' => w'.cell? ⟨gb413, 0, none⟩ = some (.slice A0_0 l0_0.length c0_0) ∧ w'.cell? ⟨gb413, 1, none⟩ = some (.slice A0_1 l0_1.length c0_1) ∧ w'.cell? ⟨gb414, 0, none⟩ = some (.slice A1_0 l1_0.length c1_0) ∧ w'.cell? ⟨gb414, 1, none⟩ = some (.slice A1_1 l1_1.length c1_1)) (ds := []) (bsq 0 8) (by kernel_rfl) rfl rfl ⟨(blk_cell BK413.out 0).trans rfl, (blk_cell BK413.out 1).trans rfl, (blk_cell BK414.out 0).trans rfl, (blk_cell BK414.out 1).trans rfl⟩ (fun hHeld => ?_); refine with_tabW signalbenchref09_Same.tab8 signalbenchref09_Same.bits8 (fun HT_ HW_ => ?_)
        generalize wr.drew = w54 at BK413 BK414 HB hHeld ⊢
        refine pu 0 44 (bsq 1 7) ?_
        refine pu 3 47 (bls [1, 2, 1, 4]) ?_
        refine tk 1 45 (bls [2, 1, 1, 4]) hHeld ?_ (he := by rintro w' ⟨s0, s1, s2, s3⟩; go_simp; with_reducible rfl)
        refine tk 4 48 (bls [2, 1, 2, 3]) hHeld ?_ (he := by rintro w' ⟨s0, s1, s2, s3⟩; go_simp; with_reducible rfl)
        refine one_ (i := 2) (N := some 46) (bsq 5 3) rfl rfl (one_of HT_.out (by kernel_rfl)) (by decide) (fun K hK => ?_)
        refine goes_ Try.func22 (by kernel_rfl) rfl #[.slice A0_1 l0_1.length c0_1] (by rfl) rfl rfl (by (try simp only [List.map_toArray, List.map_cons, List.map_nil]); first | done | rfl | (simp only [List.length_drop, List.length_take]; rfl)) ?_
        with_reducible refine (signalbenchref09_Clean.calls k2 _ _ l0_1 t419 _ ?side1 ?side2 A36.out).mono ?_
        (case side1 => repeat (first | exact (Kd.C_below HR0_1.out HB.out) | (with_reducible refine Kd.C_alloc ?_ _) | (with_reducible refine Kd.C_drewN ?_ _) | (with_reducible refine Kd.C_drew ?_)))
        (case side2 => exact HC0_1.out)
        rintro e w55 ⟨v420, rfl, ho0, hb⟩
        refine ⟨_, rfl, ?_⟩
        have n0_ := Aside0.mk (Kd.R_lower ho0 (below_size (bs HB.out)))
        have n1_ := Aside0.mk (blk_below (bg BK413.out) hb)
        have n2_ := Aside0.mk (blk_below (bg BK414.out) hb)
        have n3_ := Aside0.mk (below_step (bs HB.out) hb)
        clear BK413
        clear BK414
        clear HB
        have HO421 := n0_
        have BK413 := n1_
        have BK414 := n2_
        have HB := n3_
        clear n0_ n1_ n2_ n3_
        (try clear hb)
        (try clear hb2)
        (try clear hk)
        (try clear hi)
        (try clear ho0)
        refine hK.out _ _ ⟨(blk_cell BK413.out 0).trans rfl, (blk_cell BK413.out 1).trans rfl, (blk_cell BK414.out 0).trans rfl, (blk_cell BK414.out 1).trans rfl⟩ (fun hHeld => ?_)
        clear hK K
        refine norm_ (a' := ?_) ?_ ?_
        rotate_left
        ·
         show Act.put _ (some 46) _ = _
         simp only [Act.put, List.setIfInBounds_toArray, List.set_cons_zero, List.set_cons_succ, i64_w, i32_w]
         rfl
        refine one_ (i := 5) (N := some 49) (bsq 6 2) rfl rfl (one_of HT_.out (by kernel_rfl)) (by decide) (fun K hK => ?_)
        refine goes_ Try.func22 (by kernel_rfl) rfl #[.slice A1_1 l1_1.length c1_1] (by rfl) rfl rfl (by (try simp only [List.map_toArray, List.map_cons, List.map_nil]); first | done | rfl | (simp only [List.length_drop, List.length_take]; rfl)) ?_
        with_reducible refine (signalbenchref09_Clean.calls k2 _ _ l1_1 t422 _ ?side1 ?side2 A37.out).mono ?_
        (case side1 => repeat (first | exact (Kd.C_below HR1_1.out HB.out) | (with_reducible refine Kd.C_alloc ?_ _) | (with_reducible refine Kd.C_drewN ?_ _) | (with_reducible refine Kd.C_drew ?_)))
        (case side2 => exact HC1_1.out)
        rintro e w56 ⟨v423, rfl, ho0, hb⟩
        refine ⟨_, rfl, ?_⟩
        have n0_ := Aside0.mk (Kd.R_elder' (rq HO421.out) (Kd.R_base ho0) hb)
        have n1_ := Aside0.mk (Kd.R_lower (Kd.R_new' ho0 (Kd.R_lt (rq HO421.out))) (below_size (bs HB.out)))
        have n2_ := Aside0.mk (blk_below (bg BK413.out) hb)
        have n3_ := Aside0.mk (blk_below (bg BK414.out) hb)
        have n4_ := Aside0.mk (below_step (bs HB.out) hb)
        clear HO421
        clear BK413
        clear BK414
        clear HB
        have HO421 := n0_
        have HO424 := n1_
        have BK413 := n2_
        have BK414 := n3_
        have HB := n4_
        clear n0_ n1_ n2_ n3_ n4_
        (try clear hb)
        (try clear hb2)
        (try clear hk)
        (try clear hi)
        (try clear ho0)
        refine hK.out _ _ ⟨(blk_cell BK413.out 0).trans rfl, (blk_cell BK413.out 1).trans rfl, (blk_cell BK414.out 0).trans rfl, (blk_cell BK414.out 1).trans rfl⟩ (fun hHeld => ?_)
        clear hK K
        refine norm_ (a' := ?_) ?_ ?_
        rotate_left
        ·
         show Act.put _ (some 49) _ = _
         simp only [Act.put, List.setIfInBounds_toArray, List.set_cons_zero, List.set_cons_succ, i64_w, i32_w]
         rfl
        refine pu 6 6 (bsq 7 1) ?_
        refine pu 7 7 (bsq 8 0) ?_
        refine done_ (done_of HT_.out (by kernel_rfl)) ?_
        obtain ⟨Ao57, co57, eo57⟩ := Kd.R_slice HO421.out
        subst eo57
        obtain ⟨Ao58, co58, eo58⟩ := Kd.R_slice HO424.out
        subst eo58
        try go_wp2
        go_ret
        exact ⟨by first | rfl | (simp [errW_none, errW_some] <;> rfl) | (simp [*, errW_none, errW_some] <;> rfl), bs HB.out⟩

end Go.Proofs.Ytioedeglgljblaa.H
