-- Printed by wip/hprint.py (this project's own driver of the kit's print) out of the translation; Lean checks it.
import Derived.Test.YtioedeglgljblaaH0
import Derived.Test.YtioedeglgljblaaH8
import Derived.Test.YtioedeglgljblaaH18
import Derived.Test.YtioedeglgljblaaHGood
namespace Go.Proofs.Ytioedeglgljblaa.H
open Go.RowKit Go.Proofs.YtioedeglgljblaaW.PrintWords Go.Proofs.YtioedeglgljblaaW.PrintLast Go.Proofs.YtioedeglgljblaaW.PrintMore
attribute [local go_sem] max2_int min2_int max_two min_two max_three min_three max_four min_four   -- for this text's walks alone
set_option linter.unusedVariables false
set_option linter.unusedSimpArgs false

/-! ### signalbenchlaw14_FeedSelects: function 8 -/
mutual
def signalbenchlaw14_FeedSelects.j0 : Nat → Int → Int → Bool → List ByteArray → List (S46) → Option (Bool)
 | 0, _, _, _, _, _ => none
 | k + 1, x1, x2, x44, x470000, x470001 => if x44 = true then ((signalbenchlaw14_awake.f).bind fun t471 => (some t471)) else (if 0 ≤ x1 then (if x1 < (x470000.length : Int) then ((feed_Levels.f k x470000 x470001 (([rdOf ByteArray.empty x470000 x1] : List ByteArray))).bind fun bt476 => ((feed_Levels.f k x470000 x470001 x470000).bind fun bt480 => (if bt476.2 = 0 then (if bt480.2 = 0 then (if (bt476.1.length : Int) = (x470001.length : Int) then (signalbenchlaw14_FeedSelects.j1 k x1 x2 bt476.1 bt480.1 ((bt480.1.length : Int) != (x470001.length : Int)) x470000 x470001) else (signalbenchlaw14_FeedSelects.j1 k x1 x2 bt476.1 bt480.1 true x470000 x470001)) else (signalbenchlaw14_FeedSelects.j1 k x1 x2 bt476.1 bt480.1 true x470000 x470001)) else (signalbenchlaw14_FeedSelects.j1 k x1 x2 bt476.1 bt480.1 true x470000 x470001)))) else (none)) else (none))
def signalbenchlaw14_FeedSelects.j1 : Nat → Int → Int → List (S48) → List (S48) → Bool → List ByteArray → List (S46) → Option (Bool)
 | 0, _, _, _, _, _, _, _ => none
 | k + 1, x1, x2, x7, x9, x85, x470000, x470001 => if x85 = true then (some false) else (signalbenchlaw14_FeedSelects.l0 k x1 x2 x7 x9 1 0 x470000 x470001)
def signalbenchlaw14_FeedSelects.l0 : Nat → Int → Int → List (S48) → List (S48) → Int → Int → List ByteArray → List (S46) → Option (Bool)
 | 0, _, _, _, _, _, _, _, _ => none
 | k + 1, x1, x2, x7, x9, x11, x12, x470000, x470001 => if x12 < x1 then (signalbenchlaw14_FeedSelects.l0 k x1 x2 x7 x9 (wrap64 (x11 * 2)) (wrap64 (x12 + 1)) x470000 x470001) else (if 0 ≤ x2 then (if x2 < (x470001.length : Int) then (if x11 = 0 then (none) else (if x2 < (x7.length : Int) then (if ((rd_T48 x7 x2).f3) = (Int.tmod (wrap64 (Int.tdiv ((rd_T46 x470001 x2).f0) x11)) 2) then (if x2 < (x9.length : Int) then (if ((rd_T48 x9 x2).f3) = ((rd_T46 x470001 x2).f0) then (if ((rd_T48 x7 x2).f1) = ((rd_T48 x9 x2).f1) then (if (wrap64 (((rd_T48 x7 x2).f2) - ((rd_T48 x7 x2).f1))) = ((rd_T46 x470001 x2).f1) then ((signalbenchlaw14_awake.f).bind fun t493 => (some t493)) else (some false)) else (some false)) else (some false)) else (none)) else (some false)) else (none))) else (none)) else (none))
end
def signalbenchlaw14_FeedSelects.f (k : Nat) (l0_0 : List ByteArray) (l0_1 : List (S46)) (a1 : Int) (a2 : Int) : Option (Bool) := if (l0_1.length : Int) > 2000 then (signalbenchlaw14_FeedSelects.j0 k a1 a2 true l0_0 l0_1) else ((signalbenchref09_Good.f k l0_0 l0_1).bind fun t470 => (if t470 = true then (if a1 < 0 then (signalbenchlaw14_FeedSelects.j0 k a1 a2 true l0_0 l0_1) else (if a1 ≥ (l0_0.length : Int) then (signalbenchlaw14_FeedSelects.j0 k a1 a2 true l0_0 l0_1) else (if a2 < 0 then (signalbenchlaw14_FeedSelects.j0 k a1 a2 true l0_0 l0_1) else (signalbenchlaw14_FeedSelects.j0 k a1 a2 (decide (a2 ≥ (l0_1.length : Int))) l0_0 l0_1)))) else (signalbenchlaw14_FeedSelects.j0 k a1 a2 true l0_0 l0_1)))
def signalbenchlaw14_FeedSelects.T3 : Bool × List (List Nat × List Nat) := (true, [([], []), ([], []), ([1], [1]), ([], []), ([2, 3], [2, 3]), ([4], [4]), ([5], [5]), ([0, 6], [0, 6]), ([7], [7]), ([8], [8]), ([8], [8]), ([9, 7, 0, 1, 2, 3, 4, 5, 6, 7, 8, 9], [9]), ([10, 11, 0, 1, 2, 3, 4, 5, 6, 7, 8, 9, 10, 11], [10])])
def signalbenchlaw14_FeedSelects.B3 : List Nat := [0, 0, 2, 0, 14, 30, 62, 127, 255, 511, 511, 1023, 4095]
theorem signalbenchlaw14_FeedSelects.tab3 : rtab .any (opsOf Try.f8 3) = signalbenchlaw14_FeedSelects.T3 := by kernel_rfl
theorem signalbenchlaw14_FeedSelects.bits3 : waitsOk signalbenchlaw14_FeedSelects.T3.2 signalbenchlaw14_FeedSelects.B3 = true := by kernel_rfl
def signalbenchlaw14_FeedSelects.T13 : Bool × List (List Nat × List Nat) := (true, [([], []), ([], []), ([0, 1], [0, 1]), ([2], [2]), ([3], [3]), ([], []), ([4, 5], [4, 5]), ([6], [6]), ([7], [7]), ([7], [7]), ([8, 9, 7], [7, 8, 9]), ([10, 7], [7, 10]), ([11, 7], [7, 11]), ([7], [7]), ([13, 7], [7, 13]), ([7], [7]), ([14, 15, 7], [7, 14, 15]), ([16, 7], [7, 16]), ([17, 7], [7, 17]), ([12, 18, 7], [7, 12, 18]), ([7, 19], [7, 19]), ([20, 7], [20]), ([21], [21]), ([21], [21]), ([22, 23, 21], [21, 22, 23]), ([24, 21], [21, 24]), ([25, 21], [21, 25]), ([21], [21]), ([21], [21]), ([27, 28, 21], [21, 27, 28]), ([29, 21], [21, 29]), ([30, 21], [21, 30]), ([26, 31, 21], [21, 26, 31]), ([21, 32], [21, 32]), ([33, 21], [33]), ([34], [34]), ([34], [34]), ([35, 36, 34], [34, 35, 36]), ([37, 34], [34, 37]), ([38, 34], [34, 38]), ([34], [34]), ([34], [34]), ([40, 41, 34], [34, 40, 41]), ([42, 34], [34, 42]), ([43, 34], [34, 43]), ([39, 44, 34], [34, 39, 44]), ([34], [34]), ([46, 34], [34, 46]), ([34], [34]), ([47, 48, 34], [34, 47, 48]), ([49, 34], [34, 49]), ([50, 34], [34, 50]), ([45, 51, 34], [34, 45, 51]), ([34, 52], [34, 52]), ([53, 34], [53]), ([54, 54], [54]), ([54, 55], [54, 55]), ([56, 55, 0, 1, 2, 3, 4, 5, 6, 7, 8, 9, 10, 11, 12, 13, 14, 15, 16, 17, 18, 19, 20, 21, 22, 23, 24, 25, 26, 27, 28, 29, 30, 31, 32, 33, 34, 35, 36, 37, 38, 39, 40, 41, 42, 43, 44, 45, 46, 47, 48, 49, 50, 51, 52, 53, 54, 55, 56], [56])])
def signalbenchlaw14_FeedSelects.B13 : List Nat := [0, 0, 3, 7, 15, 0, 63, 127, 255, 255, 1023, 2047, 4095, 255, 8447, 255, 57599, 123135, 254207, 524287, 1048575, 2097151, 4194303, 4194303, 16777215, 33554431, 67108863, 4194303, 4194303, 406847487, 943718399, 2017460223, 4294967295, 8589934591, 17179869183, 34359738367, 34359738367, 137438953471, 274877906943, 549755813887, 34359738367, 34359738367, 3332894621695, 7730941132799, 16527034155007, 35184372088831, 34359738367, 70403103916031, 34359738367, 492615568982015, 1055565522403327, 2181465429245951, 4503599627370495, 9007199254740991, 18014398509481983, 36028797018963967, 72057594037927935, 144115188075855871]
theorem signalbenchlaw14_FeedSelects.tab13 : rtab .any (opsOf Try.f8 13) = signalbenchlaw14_FeedSelects.T13 := by kernel_rfl
theorem signalbenchlaw14_FeedSelects.bits13 : waitsOk signalbenchlaw14_FeedSelects.T13.2 signalbenchlaw14_FeedSelects.B13 = true := by kernel_rfl
set_option maxHeartbeats 8000000 in
set_option maxRecDepth 100000 in
theorem signalbenchlaw14_FeedSelects.calls (k : Nat) (A0_0 : Option Addr) (c0_0 : Nat) (l0_0 : List ByteArray) (A0_1 : Option Addr) (c0_1 : Nat) (l0_1 : List (S46)) (a1 : Int) (a2 : Int) (r : Bool) (w : World) (hr0_0 : Kd.C Kd.string w A0_0 l0_0.length l0_0) (hc0_0 : l0_0.length ≤ c0_0) (hr0_1 : Kd.C k46 w A0_1 l0_1.length l0_1) (hc0_1 : l0_1.length ≤ c0_1) (h : signalbenchlaw14_FeedSelects.f k l0_0 l0_1 a1 a2 = some r) :
  Calls Try.prog 8 #[.agg #[.slice A0_0 l0_0.length c0_0, .slice A0_1 l0_1.length c0_1], .int .i64 a1, .int .i64 a2] w fun e w' => e = .returned (.bool r) ∧ Below w.heap.size w w' := by
 have hu25 := Try.underlying25
 have HR0_0 := Aside0.mk hr0_0
 have HC0_0 := Aside0.mk hc0_0
 clear hr0_0 hc0_0
 have HR0_1 := Aside0.mk hr0_1
 have HC0_1 := Aside0.mk hc0_1
 clear hr0_1 hc0_1
 have HB := Aside0.mk (Below.refl w.heap.size w)
 have H : (if (l0_1.length : Int) > 2000 then (signalbenchlaw14_FeedSelects.j0 k a1 a2 true l0_0 l0_1) else ((signalbenchref09_Good.f k l0_0 l0_1).bind fun t470 => (if t470 = true then (if a1 < 0 then (signalbenchlaw14_FeedSelects.j0 k a1 a2 true l0_0 l0_1) else (if a1 ≥ (l0_0.length : Int) then (signalbenchlaw14_FeedSelects.j0 k a1 a2 true l0_0 l0_1) else (if a2 < 0 then (signalbenchlaw14_FeedSelects.j0 k a1 a2 true l0_0 l0_1) else (signalbenchlaw14_FeedSelects.j0 k a1 a2 (decide (a2 ≥ (l0_1.length : Int))) l0_0 l0_1)))) else (signalbenchlaw14_FeedSelects.j0 k a1 a2 true l0_0 l0_1)))) = some r := h
 clear h
 have HC4 := Aside0.mk H
 clear H
 go_enter Try.func8, Try.ntmps8
 go_upto_region 1 with (first | ((with_reducible refine gate_dst (N := 3) rfl ?_); (try (refine gate_guard (by rfl) ?_; dsimp only)); refine box_event ?hg (N := 3) ?hd (cs := #[.slice A0_0 l0_0.length c0_0, .slice A0_1 l0_1.length c0_1]) (t := 25) ?hr ?_; (case hd => rfl); (case hg => rfl); (case hr => first | (go_simp; done) | (go_simp; rfl)); intro gb469 hg w5 hbox hb; have n0_ := Aside0.mk (below_step (bs HB.out) hb); have n1_ := Aside0.mk (hbox); have n2_ := Aside0.mk ((by rw [hg]; exact (below_size (bs HB.out)) : w.heap.size ≤ gb469)); have n3_ := n2_; clear HB; have HB := n0_; have BK469 := n1_; have GW469 := n2_; have GE469 := n3_; clear n0_ n1_ n2_ n3_; clear hb hbox hg))
 (try simp only [Act.put, List.setIfInBounds_toArray, List.set_cons_zero, List.set_cons_succ])
 go_cut [44] (fun v44 wc => ∃ (kq : Nat) (x44_3 : Bool), v44 = .bool x44_3 ∧ Aside0 (signalbenchlaw14_FeedSelects.j0 kq a1 a2 x44_3 l0_0 l0_1 = some r) ∧ Aside0 (kq ≤ k) ∧ Aside0 (wc.heap[gb469]? = some (.cells #[(.slice A0_0 l0_0.length c0_0), (.slice A0_1 l0_1.length c0_1)] 25 (0, 0))) ∧ Aside0 (Below w.heap.size w wc))
 case first =>
  have H := HC4.out
  clear HC4
  by_cases c6 : (l0_1.length : Int) > 2000
  ·
   rw [if_pos c6] at H
   have c6b0 : decide (2000 < (l0_1.length : Int)) = true := decide_eq_true c6
   have c6b1 : decide (2000 < l0_1.length) = true := decide_eq_true (by omega)
   clear c6
   (first | rw [c6b0] | (simp only [i64_w, i32_w]; rw [c6b0]) | skip)
   have H' := Aside0.mk H
   clear H
   obtain ⟨hcz7_0, hcz7_1⟩ := bc2 BK469.out
   obtain ⟨hfz7_0, hfz7_1⟩ := bf2 BK469.out
   go_wp2
   go_meet
   case rel => exact ⟨_, (true), (by first | rfl | (simp; done) | (simp [*]; done)), H', ⟨by first | omega | exact Nat.le_refl _⟩, ⟨bg BK469.out⟩, ⟨bs HB.out⟩⟩
  ·
   rw [if_neg c6] at H
   have c6b0 : decide (2000 < (l0_1.length : Int)) = false := decide_eq_false c6
   have c6b1 : decide (2000 < l0_1.length) = false := decide_eq_false (by omega)
   clear c6
   (first | rw [c6b0] | (simp only [i64_w, i32_w]; rw [c6b0]) | skip)
   replace H := Option.bind_eq_some_iff.mp H
   obtain ⟨t470, A80, H⟩ := H
   replace H : (if t470 = true then (if a1 < 0 then (signalbenchlaw14_FeedSelects.j0 k a1 a2 true l0_0 l0_1) else (if a1 ≥ (l0_0.length : Int) then (signalbenchlaw14_FeedSelects.j0 k a1 a2 true l0_0 l0_1) else (if a2 < 0 then (signalbenchlaw14_FeedSelects.j0 k a1 a2 true l0_0 l0_1) else (signalbenchlaw14_FeedSelects.j0 k a1 a2 (decide (a2 ≥ (l0_1.length : Int))) l0_0 l0_1)))) else (signalbenchlaw14_FeedSelects.j0 k a1 a2 true l0_0 l0_1)) = some r := H
   have A8 := Aside0.mk A80
   clear A80
   by_cases c9 : t470 = true
   ·
    subst c9
    have H1 : (if a1 < 0 then (signalbenchlaw14_FeedSelects.j0 k a1 a2 true l0_0 l0_1) else (if a1 ≥ (l0_0.length : Int) then (signalbenchlaw14_FeedSelects.j0 k a1 a2 true l0_0 l0_1) else (if a2 < 0 then (signalbenchlaw14_FeedSelects.j0 k a1 a2 true l0_0 l0_1) else (signalbenchlaw14_FeedSelects.j0 k a1 a2 (decide (a2 ≥ (l0_1.length : Int))) l0_0 l0_1)))) = some r := by rw [if_pos rfl] at H; exact H
    clear H
    have H := H1
    clear H1
    by_cases c10 : a1 < 0
    ·
     rw [if_pos c10] at H
     have c10b0 : decide (a1 < 0) = true := decide_eq_true c10
     clear c10
     have H' := Aside0.mk H
     clear H
     obtain ⟨hcz11_0, hcz11_1⟩ := bc2 BK469.out
     obtain ⟨hfz11_0, hfz11_1⟩ := bf2 BK469.out
     go_wp2_with (first | (go_at_call 20; (with_reducible refine (signalbenchref09_Good.calls k _ _ l0_0 _ _ l0_1 true _ ?side1 ?side2 ?side3 ?side4 A8.out).mono ?_); (case side1 => repeat (first | exact (Kd.C_below HR0_0.out HB.out) | (with_reducible refine Kd.C_alloc ?_ _) | (with_reducible refine Kd.C_drewN ?_ _) | (with_reducible refine Kd.C_drew ?_))); (case side2 => exact HC0_0.out); (case side3 => repeat (first | exact (Kd.C_below HR0_1.out HB.out) | (with_reducible refine Kd.C_alloc ?_ _) | (with_reducible refine Kd.C_drewN ?_ _) | (with_reducible refine Kd.C_drew ?_))); (case side4 => exact HC0_1.out); rintro e w12 ⟨rfl, hb⟩; have n0_ := Aside0.mk (blk_below (bg BK469.out) hb); have n1_ := Aside0.mk (below_step (bs HB.out) hb); clear BK469; clear HB; have BK469 := n0_; have HB := n1_; clear n0_ n1_; (try clear hb); (try clear hb2); (try clear hk); (try clear hi)))
     go_meet
     case rel => exact ⟨_, (true), (by first | rfl | (simp; done) | (simp [*]; done)), H', ⟨by first | omega | exact Nat.le_refl _⟩, ⟨bg BK469.out⟩, ⟨bs HB.out⟩⟩
    ·
     rw [if_neg c10] at H
     have c10b0 : decide (a1 < 0) = false := decide_eq_false c10
     clear c10
     by_cases c13 : a1 ≥ (l0_0.length : Int)
     ·
      rw [if_pos c13] at H
      have c13b0 : decide ((l0_0.length : Int) ≤ a1) = true := decide_eq_true c13
      clear c13
      have H' := Aside0.mk H
      clear H
      obtain ⟨hcz14_0, hcz14_1⟩ := bc2 BK469.out
      obtain ⟨hfz14_0, hfz14_1⟩ := bf2 BK469.out
      go_wp2_with (first | (go_at_call 20; (with_reducible refine (signalbenchref09_Good.calls k _ _ l0_0 _ _ l0_1 true _ ?side1 ?side2 ?side3 ?side4 A8.out).mono ?_); (case side1 => repeat (first | exact (Kd.C_below HR0_0.out HB.out) | (with_reducible refine Kd.C_alloc ?_ _) | (with_reducible refine Kd.C_drewN ?_ _) | (with_reducible refine Kd.C_drew ?_))); (case side2 => exact HC0_0.out); (case side3 => repeat (first | exact (Kd.C_below HR0_1.out HB.out) | (with_reducible refine Kd.C_alloc ?_ _) | (with_reducible refine Kd.C_drewN ?_ _) | (with_reducible refine Kd.C_drew ?_))); (case side4 => exact HC0_1.out); rintro e w15 ⟨rfl, hb⟩; have n0_ := Aside0.mk (blk_below (bg BK469.out) hb); have n1_ := Aside0.mk (below_step (bs HB.out) hb); clear BK469; clear HB; have BK469 := n0_; have HB := n1_; clear n0_ n1_; (try clear hb); (try clear hb2); (try clear hk); (try clear hi); obtain ⟨hcz16_0, hcz16_1⟩ := bc2 BK469.out; obtain ⟨hfz16_0, hfz16_1⟩ := bf2 BK469.out))
      go_meet
      case rel => exact ⟨_, (true), (by first | rfl | (simp; done) | (simp [*]; done)), H', ⟨by first | omega | exact Nat.le_refl _⟩, ⟨bg BK469.out⟩, ⟨bs HB.out⟩⟩
     ·
      rw [if_neg c13] at H
      have c13b0 : decide ((l0_0.length : Int) ≤ a1) = false := decide_eq_false c13
      clear c13
      by_cases c17 : a2 < 0
      ·
       rw [if_pos c17] at H
       have c17b0 : decide (a2 < 0) = true := decide_eq_true c17
       clear c17
       have H' := Aside0.mk H
       clear H
       obtain ⟨hcz18_0, hcz18_1⟩ := bc2 BK469.out
       obtain ⟨hfz18_0, hfz18_1⟩ := bf2 BK469.out
       go_wp2_with (first | (go_at_call 20; (with_reducible refine (signalbenchref09_Good.calls k _ _ l0_0 _ _ l0_1 true _ ?side1 ?side2 ?side3 ?side4 A8.out).mono ?_); (case side1 => repeat (first | exact (Kd.C_below HR0_0.out HB.out) | (with_reducible refine Kd.C_alloc ?_ _) | (with_reducible refine Kd.C_drewN ?_ _) | (with_reducible refine Kd.C_drew ?_))); (case side2 => exact HC0_0.out); (case side3 => repeat (first | exact (Kd.C_below HR0_1.out HB.out) | (with_reducible refine Kd.C_alloc ?_ _) | (with_reducible refine Kd.C_drewN ?_ _) | (with_reducible refine Kd.C_drew ?_))); (case side4 => exact HC0_1.out); rintro e w19 ⟨rfl, hb⟩; have n0_ := Aside0.mk (blk_below (bg BK469.out) hb); have n1_ := Aside0.mk (below_step (bs HB.out) hb); clear BK469; clear HB; have BK469 := n0_; have HB := n1_; clear n0_ n1_; (try clear hb); (try clear hb2); (try clear hk); (try clear hi); obtain ⟨hcz20_0, hcz20_1⟩ := bc2 BK469.out; obtain ⟨hfz20_0, hfz20_1⟩ := bf2 BK469.out))
       go_meet
       case rel => exact ⟨_, (true), (by first | rfl | (simp; done) | (simp [*]; done)), H', ⟨by first | omega | exact Nat.le_refl _⟩, ⟨bg BK469.out⟩, ⟨bs HB.out⟩⟩
      ·
       rw [if_neg c17] at H
       have c17b0 : decide (a2 < 0) = false := decide_eq_false c17
       clear c17
       have H' := Aside0.mk H
       clear H
       obtain ⟨hcz21_0, hcz21_1⟩ := bc2 BK469.out
       obtain ⟨hfz21_0, hfz21_1⟩ := bf2 BK469.out
       go_wp2_with (first | (go_at_call 20; (with_reducible refine (signalbenchref09_Good.calls k _ _ l0_0 _ _ l0_1 true _ ?side1 ?side2 ?side3 ?side4 A8.out).mono ?_); (case side1 => repeat (first | exact (Kd.C_below HR0_0.out HB.out) | (with_reducible refine Kd.C_alloc ?_ _) | (with_reducible refine Kd.C_drewN ?_ _) | (with_reducible refine Kd.C_drew ?_))); (case side2 => exact HC0_0.out); (case side3 => repeat (first | exact (Kd.C_below HR0_1.out HB.out) | (with_reducible refine Kd.C_alloc ?_ _) | (with_reducible refine Kd.C_drewN ?_ _) | (with_reducible refine Kd.C_drew ?_))); (case side4 => exact HC0_1.out); rintro e w22 ⟨rfl, hb⟩; have n0_ := Aside0.mk (blk_below (bg BK469.out) hb); have n1_ := Aside0.mk (below_step (bs HB.out) hb); clear BK469; clear HB; have BK469 := n0_; have HB := n1_; clear n0_ n1_; (try clear hb); (try clear hb2); (try clear hk); (try clear hi); obtain ⟨hcz23_0, hcz23_1⟩ := bc2 BK469.out; obtain ⟨hfz23_0, hfz23_1⟩ := bf2 BK469.out))
       go_meet
       case rel => exact ⟨_, (decide (a2 ≥ (l0_1.length : Int))), (by first | rfl | (simp; done) | (simp [*]; done)), H', ⟨by first | omega | exact Nat.le_refl _⟩, ⟨bg BK469.out⟩, ⟨bs HB.out⟩⟩
   ·
    replace c9 := Bool.eq_false_iff.mpr c9
    subst c9
    have H1 : (signalbenchlaw14_FeedSelects.j0 k a1 a2 true l0_0 l0_1) = some r := by rw [if_neg (show ¬ (false = true) by decide)] at H; exact H
    clear H
    have H := H1
    clear H1
    have H' := Aside0.mk H
    clear H
    obtain ⟨hcz24_0, hcz24_1⟩ := bc2 BK469.out
    obtain ⟨hfz24_0, hfz24_1⟩ := bf2 BK469.out
    go_wp2_with (first | (go_at_call 20; (with_reducible refine (signalbenchref09_Good.calls k _ _ l0_0 _ _ l0_1 false _ ?side1 ?side2 ?side3 ?side4 A8.out).mono ?_); (case side1 => repeat (first | exact (Kd.C_below HR0_0.out HB.out) | (with_reducible refine Kd.C_alloc ?_ _) | (with_reducible refine Kd.C_drewN ?_ _) | (with_reducible refine Kd.C_drew ?_))); (case side2 => exact HC0_0.out); (case side3 => repeat (first | exact (Kd.C_below HR0_1.out HB.out) | (with_reducible refine Kd.C_alloc ?_ _) | (with_reducible refine Kd.C_drewN ?_ _) | (with_reducible refine Kd.C_drew ?_))); (case side4 => exact HC0_1.out); rintro e w25 ⟨rfl, hb⟩; have n0_ := Aside0.mk (blk_below (bg BK469.out) hb); have n1_ := Aside0.mk (below_step (bs HB.out) hb); clear BK469; clear HB; have BK469 := n0_; have HB := n1_; clear n0_ n1_; (try clear hb); (try clear hb2); (try clear hk); (try clear hi)))
    go_meet
    case rel => exact ⟨_, (true), (by first | rfl | (simp; done) | (simp [*]; done)), H', ⟨by first | omega | exact Nat.le_refl _⟩, ⟨bg BK469.out⟩, ⟨bs HB.out⟩⟩
 case rest =>
  clear HC4
  try clear c1
  try clear p2
  try clear c6
  try clear c6b0
  try clear c6b1
  try clear c8
  try clear c9
  try clear c10
  try clear c10b0
  try clear c13
  try clear c13b0
  try clear c17
  try clear c17b0
  try clear hcz11_0 hcz11_1
  try clear hcz14_0 hcz14_1
  try clear hcz16_0 hcz16_1
  try clear hcz18_0 hcz18_1
  try clear hcz20_0 hcz20_1
  try clear hcz21_0 hcz21_1
  try clear hcz23_0 hcz23_1
  try clear hcz24_0 hcz24_1
  try clear hcz7_0 hcz7_1
  try clear hfz11_0 hfz11_1
  try clear hfz14_0 hfz14_1
  try clear hfz16_0 hfz16_1
  try clear hfz18_0 hfz18_1
  try clear hfz20_0 hfz20_1
  try clear hfz21_0 hfz21_1
  try clear hfz23_0 hfz23_1
  try clear hfz24_0 hfz24_1
  try clear hfz7_0 hfz7_1
  obtain ⟨kq, x44_3, rfl, HA, HJ3, BK469, HB⟩ := hcut
  cases kq with
  | zero => exact absurd HA.out (by simp [signalbenchlaw14_FeedSelects.j0])
  | succ kj3 =>
   have H := HA.out
   clear HA
   simp only [signalbenchlaw14_FeedSelects.j0] at H
   by_cases c26 : x44_3 = true
   ·
    subst c26
    have H1 : ((signalbenchlaw14_awake.f).bind fun t471 => (some t471)) = some r := by rw [if_pos rfl] at H; exact H
    clear H
    have H := H1
    clear H1
    replace H := Option.bind_eq_some_iff.mp H
    obtain ⟨t471, A270, H⟩ := H
    replace H : (some t471) = some r := H
    have A27 := Aside0.mk A270
    clear A270
    obtain rfl := Option.some.inj H
    go_wp2_with (first | ((with_reducible refine gate_callee (f := 12) rfl ?_); refine goesL_ (some 45) rfl rfl Try.func12 (by kernel_rfl) rfl #[] rfl (by (try simp only [List.map_toArray, List.map_cons, List.map_nil]); first | done | rfl | (simp only [List.length_drop, List.length_take]; rfl)) ?_; (with_reducible refine (signalbenchlaw14_awake.calls  t471 _ A27.out).mono ?_); rintro e w28 ⟨rfl, hb⟩; refine ⟨_, rfl, ?_⟩; have n0_ := Aside0.mk (blk_below (bg BK469.out) hb); have n1_ := Aside0.mk (below_step (bs HB.out) hb); clear BK469; clear HB; have BK469 := n0_; have HB := n1_; clear n0_ n1_; (try clear hb); (try clear hb2); (try clear hk); (try clear hi)))
    go_ret
    exact ⟨by first | rfl | (simp [errW_none, errW_some] <;> rfl) | (simp [*, errW_none, errW_some] <;> rfl), bs HB.out⟩
   ·
    replace c26 := Bool.eq_false_iff.mpr c26
    subst c26
    have H1 : (if 0 ≤ a1 then (if a1 < (l0_0.length : Int) then ((feed_Levels.f kj3 l0_0 l0_1 (([rdOf ByteArray.empty l0_0 a1] : List ByteArray))).bind fun bt476 => ((feed_Levels.f kj3 l0_0 l0_1 l0_0).bind fun bt480 => (if bt476.2 = 0 then (if bt480.2 = 0 then (if (bt476.1.length : Int) = (l0_1.length : Int) then (signalbenchlaw14_FeedSelects.j1 kj3 a1 a2 bt476.1 bt480.1 ((bt480.1.length : Int) != (l0_1.length : Int)) l0_0 l0_1) else (signalbenchlaw14_FeedSelects.j1 kj3 a1 a2 bt476.1 bt480.1 true l0_0 l0_1)) else (signalbenchlaw14_FeedSelects.j1 kj3 a1 a2 bt476.1 bt480.1 true l0_0 l0_1)) else (signalbenchlaw14_FeedSelects.j1 kj3 a1 a2 bt476.1 bt480.1 true l0_0 l0_1)))) else (none)) else (none)) = some r := by rw [if_neg (show ¬ (false = true) by decide)] at H; exact H
    clear H
    have H := H1
    clear H1
    by_cases c29 : 0 ≤ a1
    ·
     rw [if_pos c29] at H
     have c29b0 : decide (0 ≤ a1) = true := decide_eq_true c29
     clear c29
     by_cases c30 : a1 < (l0_0.length : Int)
     ·
      rw [if_pos c30] at H
      have c30b0 : decide (a1 < (l0_0.length : Int)) = true := decide_eq_true c30
      clear c30
      obtain ⟨y473, hy473⟩ : ∃ y_ : List ByteArray, y_ = (([rdOf ByteArray.empty l0_0 a1] : List ByteArray)) := ⟨_, rfl⟩
      replace H : ((feed_Levels.f kj3 l0_0 l0_1 y473).bind fun bt476 => ((feed_Levels.f kj3 l0_0 l0_1 l0_0).bind fun bt480 => (if bt476.2 = 0 then (if bt480.2 = 0 then (if (bt476.1.length : Int) = (l0_1.length : Int) then (signalbenchlaw14_FeedSelects.j1 kj3 a1 a2 bt476.1 bt480.1 ((bt480.1.length : Int) != (l0_1.length : Int)) l0_0 l0_1) else (signalbenchlaw14_FeedSelects.j1 kj3 a1 a2 bt476.1 bt480.1 true l0_0 l0_1)) else (signalbenchlaw14_FeedSelects.j1 kj3 a1 a2 bt476.1 bt480.1 true l0_0 l0_1)) else (signalbenchlaw14_FeedSelects.j1 kj3 a1 a2 bt476.1 bt480.1 true l0_0 l0_1)))) = some r := by first | (rw [hy473]; with_reducible exact H) | (have H2_ := (Option.bind_some _ _).symm.trans H; rw [hy473]; with_reducible exact H2_) | (have H2_ := (Option.bind_some _ _).symm.trans H; with_reducible exact H2_) | with_reducible exact H | (rw [hy473]; exact H) | exact H
      have Ny473 := Aside0.mk hy473
      clear hy473
      replace H := Option.bind_eq_some_iff.mp H
      obtain ⟨⟨t476, t479⟩, A310, H⟩ := H
      replace H : ((feed_Levels.f kj3 l0_0 l0_1 l0_0).bind fun bt480 => (if t479 = 0 then (if bt480.2 = 0 then (if (t476.length : Int) = (l0_1.length : Int) then (signalbenchlaw14_FeedSelects.j1 kj3 a1 a2 t476 bt480.1 ((bt480.1.length : Int) != (l0_1.length : Int)) l0_0 l0_1) else (signalbenchlaw14_FeedSelects.j1 kj3 a1 a2 t476 bt480.1 true l0_0 l0_1)) else (signalbenchlaw14_FeedSelects.j1 kj3 a1 a2 t476 bt480.1 true l0_0 l0_1)) else (signalbenchlaw14_FeedSelects.j1 kj3 a1 a2 t476 bt480.1 true l0_0 l0_1))) = some r := H
      have A31 := Aside0.mk A310
      clear A310
      replace H := Option.bind_eq_some_iff.mp H
      obtain ⟨⟨t480, t483⟩, A320, H⟩ := H
      replace H : (if t479 = 0 then (if t483 = 0 then (if (t476.length : Int) = (l0_1.length : Int) then (signalbenchlaw14_FeedSelects.j1 kj3 a1 a2 t476 t480 ((t480.length : Int) != (l0_1.length : Int)) l0_0 l0_1) else (signalbenchlaw14_FeedSelects.j1 kj3 a1 a2 t476 t480 true l0_0 l0_1)) else (signalbenchlaw14_FeedSelects.j1 kj3 a1 a2 t476 t480 true l0_0 l0_1)) else (signalbenchlaw14_FeedSelects.j1 kj3 a1 a2 t476 t480 true l0_0 l0_1)) = some r := H
      have A32 := Aside0.mk A320
      clear A320
      have HC33 := Aside0.mk H
      clear H
      try go_wp2
      have n0_ := Aside0.mk (blk_drew BK469.out)
      have n1_ := Aside0.mk (below_drew1 HB.out)
      clear BK469
      clear HB
      have BK469 := n0_
      have HB := n1_
      clear n0_ n1_
      have p472 : 0 ≤ (a1 : Int) := of_decide_eq_true (by first | (with_reducible assumption) | assumption)
      have q472 : a1 < (l0_0.length : Int) := of_decide_eq_true (by first | (with_reducible assumption) | assumption)
      obtain ⟨ad472, e472, hx472_0⟩ := Kd.at_string HR0_0.out a1 p472 q472
      have hw472_0 := hx472_0
      cases e472
      replace hx472_0 := pw_cell_below HB.out hx472_0
      replace p472 := eq_true p472
      replace q472 := eq_true q472
      refine start_ (n := 13) (S := fun w' => w'.cell? ⟨gb469, 0, none⟩ = some (.slice (some ad472) l0_0.length c0_0) ∧ w'.cell? ⟨gb469, 1, none⟩ = some (.slice A0_1 l0_1.length c0_1) ∧ w'.cell? (ad472.add (a1).toNat) = some (.string (rdOf ByteArray.empty l0_0 a1))) (ds := []) (bsq 0 13) (by kernel_rfl) rfl rfl ⟨(blk_cell BK469.out 0).trans rfl, (blk_cell BK469.out 1).trans rfl, ((HB.out.cell (World.block_lt_of_cell? w _ hw472_0)).trans hw472_0)⟩ (fun hHeld => ?_); refine with_tabW signalbenchlaw14_FeedSelects.tab3 signalbenchlaw14_FeedSelects.bits3 (fun HT_ HW_ => ?_)
      generalize wc.drew = w34 at BK469 HB hx472_0 hHeld ⊢
      refine pu 1 48 (bls [0, 1, 1, 11]) ?_
      refine pu 3 50 (bls [0, 1, 1, 1, 1, 9]) ?_
      refine tk 0 47 (bls [2, 1, 1, 9]) hHeld ?_ (he := by rintro w' ⟨s0, s1, s2⟩; go_simp; with_reducible rfl)
      refine tk 2 49 (bsq 4 9) hHeld ?_ (he := by rintro w' ⟨s0, s1, s2⟩; go_simp; with_reducible rfl)
      refine pu 4 51 (bsq 5 8) ?_
      refine tk 5 52 (bsq 6 7) hHeld ?_ (he := by rintro w' ⟨s0, s1, s2⟩; go_simp; with_reducible rfl)
      refine one_ (i := 6) (N := some 53) (bsq 7 6) rfl rfl (one_of HT_.out (by kernel_rfl)) (by decide) (fun K hK => ?_)
      refine Kd.R_lit_step Kd.string _ 9 ?hg (N := 53) ?hd (xs := ([rdOf ByteArray.empty l0_0 a1] : List ByteArray)) (inner := [.string (rdOf ByteArray.empty l0_0 a1)]) (ok := fun _ => True) (okp := fun _ => True) ?hr ?hp (fun _ hk => hk) trivial (Below.refl _ _) (Nat.le_refl _) (by simp) ?_; (case hd => rfl); (case hg => rfl); (case hr => first | (go_simp; done) | (go_simp; rfl)); (case hp => exact (Reps.one (show Kd.M Kd.string _ _ _ (rdOf ByteArray.empty l0_0 a1) [.string (rdOf ByteArray.empty l0_0 a1)] from rfl) (Reps.none _ _)))
      intro v474 w35 ho36 hb hg_ hnew_
      clear hg_ hnew_
      (first | rw [← Ny473.out] at ho36 | (simp only [Int.reduceToNat] at ho36; rw [← Ny473.out] at ho36))
      have n0_ := Aside0.mk (Kd.R_lower ho36 (below_size (bs HB.out)))
      have n1_ := Aside0.mk (blk_below (bg BK469.out) hb)
      have n2_ := Aside0.mk (below_step (bs HB.out) hb)
      clear BK469
      clear HB
      have HO475 := n0_
      have BK469 := n1_
      have HB := n2_
      clear n0_ n1_ n2_
      clear hb ho36
      obtain ⟨Ao37, co37, eo37⟩ := Kd.R_slice HO475.out
      (first | subst eo37 | (injection eo37 with f1_ f2_ f3_; have f4_ := f1_.symm; have f5_ := f3_.symm; clear f1_ f2_ f3_; subst f4_; subst f5_))
      refine hK.out _ _ ⟨(blk_cell BK469.out 0).trans rfl, (blk_cell BK469.out 1).trans rfl, ((HB.out.cell (World.block_lt_of_cell? w _ hw472_0)).trans hw472_0)⟩ (fun hHeld => ?_)
      clear hK K
      refine norm_ (a' := ?_) ?_ ?_
      rotate_left
      ·
       show Act.put _ (some 53) _ = _
       simp only [Act.put, List.setIfInBounds_toArray, List.set_cons_zero, List.set_cons_succ, i64_w, i32_w]
       rfl
      refine one_ (i := 7) (N := some 54) (bsq 8 5) rfl rfl (one_of HT_.out (by kernel_rfl)) (by decide) (fun K hK => ?_)
      refine goes_ Try.func9 (by kernel_rfl) rfl #[.agg #[.slice (some ad472) l0_0.length c0_0, .slice A0_1 l0_1.length c0_1], .slice Ao37 y473.length co37] (by rfl) rfl rfl (by (try simp only [List.map_toArray, List.map_cons, List.map_nil]); first | done | rfl | (simp only [List.length_drop, List.length_take]; rfl)) ?_
      with_reducible refine (feed_Levels.calls kj3 _ _ l0_0 _ _ l0_1 _ _ y473 t476 t479 _ ?side1 ?side2 ?side3 ?side4 ?side5 ?side6 A31.out).mono ?_
      (case side1 => repeat (first | exact (Kd.C_below HR0_0.out HB.out) | (with_reducible refine Kd.C_alloc ?_ _) | (with_reducible refine Kd.C_drewN ?_ _) | (with_reducible refine Kd.C_drew ?_)))
      (case side2 => exact HC0_0.out)
      (case side3 => repeat (first | exact (Kd.C_below HR0_1.out HB.out) | (with_reducible refine Kd.C_alloc ?_ _) | (with_reducible refine Kd.C_drewN ?_ _) | (with_reducible refine Kd.C_drew ?_)))
      (case side4 => exact HC0_1.out)
      (case side5 => repeat (first | exact (Kd.R_reads' HO475.out).2.2 | (with_reducible refine Kd.C_alloc ?_ _) | (with_reducible refine Kd.C_drewN ?_ _) | (with_reducible refine Kd.C_drew ?_)))
      (case side6 => exact (Kd.R_reads' HO475.out).2.1)
      rintro e w38 ⟨v477, rfl, ho0, hb⟩
      refine ⟨_, rfl, ?_⟩
      have n0_ := Aside0.mk (Kd.R_below (rq HO475.out) hb)
      have n1_ := Aside0.mk (Kd.R_lower ho0 (below_size (bs HB.out)))
      have n2_ := Aside0.mk (blk_below (bg BK469.out) hb)
      have n3_ := Aside0.mk (below_step (bs HB.out) hb)
      clear HO475
      clear BK469
      clear HB
      have HO475 := n0_
      have HO478 := n1_
      have BK469 := n2_
      have HB := n3_
      clear n0_ n1_ n2_ n3_
      (try clear hb)
      (try clear hb2)
      (try clear hk)
      (try clear hi)
      (try clear ho0)
      refine hK.out _ _ ⟨(blk_cell BK469.out 0).trans rfl, (blk_cell BK469.out 1).trans rfl, ((HB.out.cell (World.block_lt_of_cell? w _ hw472_0)).trans hw472_0)⟩ (fun hHeld => ?_)
      clear hK K
      refine norm_ (a' := ?_) ?_ ?_
      rotate_left
      ·
       show Act.put _ (some 54) _ = _
       simp only [Act.put, List.setIfInBounds_toArray, List.set_cons_zero, List.set_cons_succ, i64_w, i32_w]
       rfl
      refine pu 8 46 (bsq 9 4) ?_
      refine pu 9 55 (bsq 10 3) ?_
      refine pu 10 56 (bsq 11 2) ?_
      refine pu 11 7 (bsq 12 1) ?_
      refine pu 12 8 (bsq 13 0) ?_
      refine done_ (done_of HT_.out (by kernel_rfl)) ?_
      obtain ⟨hcz39_0, hcz39_1⟩ := bc2 BK469.out
      obtain ⟨hfz39_0, hfz39_1⟩ := bf2 BK469.out
      go_upto_region 5 with (first | ((with_reducible refine gate_callee (f := 9) rfl ?_); refine goesL_ (some 61) rfl rfl Try.func9 (by kernel_rfl) rfl #[.agg #[.slice (some ad472) l0_0.length c0_0, .slice A0_1 l0_1.length c0_1], .slice (some ad472) l0_0.length c0_0] rfl (by (try simp only [List.map_toArray, List.map_cons, List.map_nil]); first | done | rfl | (simp only [List.length_drop, List.length_take]; rfl)) ?_; (with_reducible refine (feed_Levels.calls kj3 _ _ l0_0 _ _ l0_1 _ _ l0_0 t480 t483 _ ?side1 ?side2 ?side3 ?side4 ?side5 ?side6 A32.out).mono ?_); (case side1 => repeat (first | exact (Kd.C_below HR0_0.out HB.out) | (with_reducible refine Kd.C_alloc ?_ _) | (with_reducible refine Kd.C_drewN ?_ _) | (with_reducible refine Kd.C_drew ?_))); (case side2 => exact HC0_0.out); (case side3 => repeat (first | exact (Kd.C_below HR0_1.out HB.out) | (with_reducible refine Kd.C_alloc ?_ _) | (with_reducible refine Kd.C_drewN ?_ _) | (with_reducible refine Kd.C_drew ?_))); (case side4 => exact HC0_1.out); (case side5 => repeat (first | exact (Kd.C_below HR0_0.out HB.out) | (with_reducible refine Kd.C_alloc ?_ _) | (with_reducible refine Kd.C_drewN ?_ _) | (with_reducible refine Kd.C_drew ?_))); (case side6 => exact HC0_0.out); rintro e w40 ⟨v481, rfl, ho0, hb⟩; refine ⟨_, rfl, ?_⟩; have n0_ := Aside0.mk (Kd.R_below (rq HO475.out) hb); have n1_ := Aside0.mk (Kd.R_elder' (rq HO478.out) (Kd.R_base ho0) hb); have n2_ := Aside0.mk (Kd.R_lower (Kd.R_new' ho0 (Kd.R_lt (rq HO478.out))) (below_size (bs HB.out))); have n3_ := Aside0.mk (blk_below (bg BK469.out) hb); have n4_ := Aside0.mk (below_step (bs HB.out) hb); clear HO475; clear HO478; clear BK469; clear HB; have HO475 := n0_; have HO478 := n1_; have HO482 := n2_; have BK469 := n3_; have HB := n4_; clear n0_ n1_ n2_ n3_ n4_; (try clear hb); (try clear hb2); (try clear hk); (try clear hi); (try clear ho0)))
      (try simp only [Act.put, List.setIfInBounds_toArray, List.set_cons_zero, List.set_cons_succ])
      go_cut [85] (fun v85 wc => ∃ (kq : Nat) (x85_32 : Bool), v85 = .bool x85_32 ∧ Aside0 (signalbenchlaw14_FeedSelects.j1 kq a1 a2 t476 t480 x85_32 l0_0 l0_1 = some r) ∧ Aside0 (kq ≤ kj3) ∧ Aside0 (Kd.R k48 48 wc w.heap.size (fun k_ => some k_ ≠ (v481 : Value).ownBlock) v477 t476) ∧ Aside0 (Kd.R k48 48 wc w.heap.size (fun k_ => some k_ ≠ (v477 : Value).ownBlock) v481 t480) ∧ Aside0 (wc.heap[gb469]? = some (.cells #[(.slice (some ad472) l0_0.length c0_0), (.slice A0_1 l0_1.length c0_1)] 25 (0, 0))) ∧ Aside0 (Below w.heap.size w wc))
      case first =>
       have H := HC33.out
       clear HC33
       by_cases c41 : t479 = 0
       ·
        rw [if_pos c41] at H
        have c41b0 : (t479 == 0) = true := beq_iff_eq.mpr c41
        have c41b1 : (t479 != 0) = false := bne_eq_false_iff_eq.mpr c41
        clear c41
        (first | rw [c41b0] | (simp only [i64_w, i32_w]; rw [c41b0]) | skip)
        by_cases c42 : t483 = 0
        ·
         rw [if_pos c42] at H
         have c42b0 : (t483 == 0) = true := beq_iff_eq.mpr c42
         have c42b1 : (t483 != 0) = false := bne_eq_false_iff_eq.mpr c42
         clear c42
         by_cases c43 : (t476.length : Int) = (l0_1.length : Int)
         ·
          rw [if_pos c43] at H
          have c43b0 : ((t476.length : Int) == (l0_1.length : Int)) = true := beq_iff_eq.mpr c43
          have c43b1 : ((t476.length : Int) != (l0_1.length : Int)) = false := bne_eq_false_iff_eq.mpr c43
          have c43b2 : (t476.length == l0_1.length) = true := by first | simpa using c43 | (simp at c43 ⊢; omega)
          clear c43
          have H' := Aside0.mk H
          clear H
          obtain ⟨Ao44, co44, eo44⟩ := Kd.R_slice HO478.out
          subst eo44
          obtain ⟨hcz45_0, hcz45_1⟩ := bc2 BK469.out
          obtain ⟨hfz45_0, hfz45_1⟩ := bf2 BK469.out
          obtain ⟨Ao46, co46, eo46⟩ := Kd.R_slice HO482.out
          subst eo46
          go_wp2
          go_meet
          case rel => exact ⟨_, (((t480.length : Int) != (l0_1.length : Int))), (by first | rfl | (simp; done) | (simp [*]; done)), H', ⟨by have := HJ3.out; first | omega | exact Nat.le_refl _⟩, ⟨by (with_reducible repeat (first | apply Kd.R_alloc | apply Kd.R_drewN | apply Kd.R_drew)); exact Kd.R_mono HO478.out (fun _ hk => hk.2)⟩, ⟨by (with_reducible repeat (first | apply Kd.R_alloc | apply Kd.R_drewN | apply Kd.R_drew)); exact Kd.R_mono HO482.out (fun _ hk => hk.2)⟩, ⟨bg BK469.out⟩, ⟨bs HB.out⟩⟩
         ·
          rw [if_neg c43] at H
          have c43b0 : ((t476.length : Int) == (l0_1.length : Int)) = false := beq_eq_false_iff_ne.mpr c43
          have c43b1 : ((t476.length : Int) != (l0_1.length : Int)) = true := bne_iff_ne.mpr c43
          have c43b2 : (t476.length == l0_1.length) = false := by first | simpa using c43 | (simp at c43 ⊢; omega)
          have H' := Aside0.mk H
          clear H
          obtain ⟨Ao47, co47, eo47⟩ := Kd.R_slice HO478.out
          subst eo47
          obtain ⟨hcz48_0, hcz48_1⟩ := bc2 BK469.out
          obtain ⟨hfz48_0, hfz48_1⟩ := bf2 BK469.out
          go_wp2
          go_meet
          case rel => exact ⟨_, (true), (by first | rfl | (simp; done) | (simp [*]; done)), H', ⟨by have := HJ3.out; first | omega | exact Nat.le_refl _⟩, ⟨by (with_reducible repeat (first | apply Kd.R_alloc | apply Kd.R_drewN | apply Kd.R_drew)); exact Kd.R_mono HO478.out (fun _ hk => hk.2)⟩, ⟨by (with_reducible repeat (first | apply Kd.R_alloc | apply Kd.R_drewN | apply Kd.R_drew)); exact Kd.R_mono HO482.out (fun _ hk => hk.2)⟩, ⟨bg BK469.out⟩, ⟨bs HB.out⟩⟩
        ·
         rw [if_neg c42] at H
         have c42b0 : (t483 == 0) = false := beq_eq_false_iff_ne.mpr c42
         have c42b1 : (t483 != 0) = true := bne_iff_ne.mpr c42
         have H' := Aside0.mk H
         clear H
         go_wp2
         go_meet
         case rel => exact ⟨_, (true), (by first | rfl | (simp; done) | (simp [*]; done)), H', ⟨by have := HJ3.out; first | omega | exact Nat.le_refl _⟩, ⟨by (with_reducible repeat (first | apply Kd.R_alloc | apply Kd.R_drewN | apply Kd.R_drew)); exact Kd.R_mono HO478.out (fun _ hk => hk.2)⟩, ⟨by (with_reducible repeat (first | apply Kd.R_alloc | apply Kd.R_drewN | apply Kd.R_drew)); exact Kd.R_mono HO482.out (fun _ hk => hk.2)⟩, ⟨bg BK469.out⟩, ⟨bs HB.out⟩⟩
       ·
        rw [if_neg c41] at H
        have c41b0 : (t479 == 0) = false := beq_eq_false_iff_ne.mpr c41
        have c41b1 : (t479 != 0) = true := bne_iff_ne.mpr c41
        (first | rw [c41b0] | (simp only [i64_w, i32_w]; rw [c41b0]) | skip)
        have H' := Aside0.mk H
        clear H
        go_wp2
        go_meet
        case rel => exact ⟨_, (true), (by first | rfl | (simp; done) | (simp [*]; done)), H', ⟨by have := HJ3.out; first | omega | exact Nat.le_refl _⟩, ⟨by (with_reducible repeat (first | apply Kd.R_alloc | apply Kd.R_drewN | apply Kd.R_drew)); exact Kd.R_mono HO478.out (fun _ hk => hk.2)⟩, ⟨by (with_reducible repeat (first | apply Kd.R_alloc | apply Kd.R_drewN | apply Kd.R_drew)); exact Kd.R_mono HO482.out (fun _ hk => hk.2)⟩, ⟨bg BK469.out⟩, ⟨bs HB.out⟩⟩
      case rest =>
       clear HC33
       try clear c1
       try clear c2
       try clear p2
       try clear c3
       try clear c4
       try clear p4
       try clear q4
       try clear hx4
       try clear c6
       try clear c6b0
       try clear c6b1
       try clear c8
       try clear c9
       try clear c10
       try clear c10b0
       try clear c12
       try clear c13
       try clear c13b0
       try clear c17
       try clear c17b0
       try clear c26
       try clear c29
       try clear c29b0
       try clear c30
       try clear c30b0
       try clear c41
       try clear c41b0
       try clear c41b1
       try clear c42
       try clear c42b0
       try clear c42b1
       try clear c43
       try clear c43b0
       try clear c43b1
       try clear c43b2
       try clear p47
       try clear q47
       try clear hx47
       try clear hcz11_0 hcz11_1
       try clear hcz14_0 hcz14_1
       try clear hcz16_0 hcz16_1
       try clear hcz18_0 hcz18_1
       try clear hcz20_0 hcz20_1
       try clear hcz21_0 hcz21_1
       try clear hcz23_0 hcz23_1
       try clear hcz24_0 hcz24_1
       try clear hcz39_0 hcz39_1
       try clear hcz45_0 hcz45_1
       try clear hcz48_0 hcz48_1
       try clear hcz7_0 hcz7_1
       try clear hfz11_0 hfz11_1
       try clear hfz14_0 hfz14_1
       try clear hfz16_0 hfz16_1
       try clear hfz18_0 hfz18_1
       try clear hfz20_0 hfz20_1
       try clear hfz21_0 hfz21_1
       try clear hfz23_0 hfz23_1
       try clear hfz24_0 hfz24_1
       try clear hfz39_0 hfz39_1
       try clear hfz45_0 hfz45_1
       try clear hfz48_0 hfz48_1
       try clear hfz7_0 hfz7_1
       try clear hx472_0
       try clear p2
       try clear p472
       try clear q472
       obtain ⟨kq, x85_32, rfl, HA, HJ32, HO_7, HO_9, BK469, HB⟩ := hcut
       cases kq with
       | zero => exact absurd HA.out (by simp [signalbenchlaw14_FeedSelects.j1])
       | succ kj32 =>
        have H := HA.out
        clear HA
        simp only [signalbenchlaw14_FeedSelects.j1] at H
        by_cases c49 : x85_32 = true
        ·
         subst c49
         have H1 : (some false) = some r := by rw [if_pos rfl] at H; exact H
         clear H
         have H := H1
         clear H1
         obtain rfl := Option.some.inj H
         go_wp2
         go_ret
         exact ⟨by first | rfl | (simp [errW_none, errW_some] <;> rfl) | (simp [*, errW_none, errW_some] <;> rfl), bs HB.out⟩
        ·
         replace c49 := Bool.eq_false_iff.mpr c49
         subst c49
         have H1 : (signalbenchlaw14_FeedSelects.l0 kj32 a1 a2 t476 t480 1 0 l0_0 l0_1) = some r := by rw [if_neg (show ¬ (false = true) by decide)] at H; exact H
         clear H
         have H := H1
         clear H1
         have H' := Aside0.mk H
         clear H
         go_wp2
         go_loopg [11, 12] kj32 (fun kq v11 v12 w' => ∃ (x11_3 : Int) (x12_3 : Int), v11 = .int .i64 x11_3 ∧ v12 = .int .i64 x12_3 ∧ Aside0 (signalbenchlaw14_FeedSelects.l0 kq a1 a2 t476 t480 x11_3 x12_3 l0_0 l0_1 = some r) ∧ Aside0 (kq ≤ kj32) ∧ Aside0 (Kd.R k48 48 w' w.heap.size (fun k_ => some k_ ≠ (v481 : Value).ownBlock) v477 t476) ∧ Aside0 (Kd.R k48 48 w' w.heap.size (fun k_ => some k_ ≠ (v477 : Value).ownBlock) v481 t480) ∧ Aside0 (w'.heap[gb469]? = some (.cells #[(.slice (some ad472) l0_0.length c0_0), (.slice A0_1 l0_1.length c0_1)] 25 (0, 0))) ∧ Aside0 (Below w.heap.size w w'))
         case atStart => exact ⟨(1), (0), (by first | rfl | (simp; done) | (simp [*]; done)), (by first | rfl | (simp; done) | (simp [*]; done)), H', ⟨Nat.le_refl _⟩, ⟨by (with_reducible repeat (first | apply Kd.R_alloc | apply Kd.R_drewN | apply Kd.R_drew)); exact HO_7.out⟩, ⟨by (with_reducible repeat (first | apply Kd.R_alloc | apply Kd.R_drewN | apply Kd.R_drew)); exact HO_9.out⟩, ⟨bg BK469.out⟩, ⟨bs HB.out⟩⟩
         case round =>
          clear H'
          try clear c1
          try clear c2
          try clear p2
          try clear c3
          try clear c4
          try clear p4
          try clear q4
          try clear hx4
          try clear c6
          try clear c6b0
          try clear c6b1
          try clear c8
          try clear c9
          try clear c10
          try clear c10b0
          try clear c12
          try clear c13
          try clear c13b0
          try clear c17
          try clear c17b0
          try clear c26
          try clear c29
          try clear c29b0
          try clear c30
          try clear c30b0
          try clear c41
          try clear c41b0
          try clear c41b1
          try clear c42
          try clear c42b0
          try clear c42b1
          try clear c43
          try clear c43b0
          try clear c43b1
          try clear c43b2
          try clear p47
          try clear q47
          try clear hx47
          try clear c49
          try clear hcz11_0 hcz11_1
          try clear hcz14_0 hcz14_1
          try clear hcz16_0 hcz16_1
          try clear hcz18_0 hcz18_1
          try clear hcz20_0 hcz20_1
          try clear hcz21_0 hcz21_1
          try clear hcz23_0 hcz23_1
          try clear hcz24_0 hcz24_1
          try clear hcz39_0 hcz39_1
          try clear hcz45_0 hcz45_1
          try clear hcz48_0 hcz48_1
          try clear hcz7_0 hcz7_1
          try clear hfz11_0 hfz11_1
          try clear hfz14_0 hfz14_1
          try clear hfz16_0 hfz16_1
          try clear hfz18_0 hfz18_1
          try clear hfz20_0 hfz20_1
          try clear hfz21_0 hfz21_1
          try clear hfz23_0 hfz23_1
          try clear hfz24_0 hfz24_1
          try clear hfz39_0 hfz39_1
          try clear hfz45_0 hfz45_1
          try clear hfz48_0 hfz48_1
          try clear hfz7_0 hfz7_1
          try clear hx472_0
          try clear p2
          try clear p4
          try clear p47
          try clear p472
          try clear q4
          try clear q47
          try clear q472
          obtain ⟨x11_3, x12_3, rfl, rfl, HA, HK3, HO_7, HO_9, BK469, HB⟩ := hrel
          cases gk with
          | zero => exact absurd HA.out (by simp [signalbenchlaw14_FeedSelects.l0])
          | succ k3 =>
           have H := HA.out
           clear HA
           simp only [signalbenchlaw14_FeedSelects.l0] at H
           by_cases c50 : x12_3 < a1
           ·
            rw [if_pos c50] at H
            have c50b0 : decide (x12_3 < a1) = true := decide_eq_true c50
            clear c50
            have H' := Aside0.mk H
            clear H
            go_wp2
            go_roundg k3
            case measure => have := HJ3.out; have := HJ32.out; have := HK3.out; omega
            case rel => exact ⟨(wrap64 (x11_3 * 2)), (wrap64 (x12_3 + 1)), (by first | rfl | (simp; done) | (simp [*]; done)), (by first | rfl | (simp; done) | (simp [*]; done)), H', ⟨by have := HJ3.out; have := HJ32.out; have := HK3.out; omega⟩, ⟨by (with_reducible repeat (first | apply Kd.R_alloc | apply Kd.R_drewN | apply Kd.R_drew)); exact HO_7.out⟩, ⟨by (with_reducible repeat (first | apply Kd.R_alloc | apply Kd.R_drewN | apply Kd.R_drew)); exact HO_9.out⟩, ⟨bg BK469.out⟩, ⟨bs HB.out⟩⟩
           ·
            rw [if_neg c50] at H
            have c50b0 : decide (x12_3 < a1) = false := decide_eq_false c50
            clear c50
            by_cases c51 : 0 ≤ a2
            ·
             rw [if_pos c51] at H
             have c51b0 : decide (0 ≤ a2) = true := decide_eq_true c51
             clear c51
             by_cases c52 : a2 < (l0_1.length : Int)
             ·
              rw [if_pos c52] at H
              have c52b0 : decide (a2 < (l0_1.length : Int)) = true := decide_eq_true c52
              clear c52
              by_cases c53 : x11_3 = 0
              ·
               rw [if_pos c53] at H
               exact absurd H (by simp)
              ·
               rw [if_neg c53] at H
               have c53b0 : (x11_3 == 0) = false := beq_eq_false_iff_ne.mpr c53
               have c53b1 : (x11_3 != 0) = true := bne_iff_ne.mpr c53
               by_cases c54 : a2 < (t476.length : Int)
               ·
                rw [if_pos c54] at H
                have c54b0 : decide (a2 < (t476.length : Int)) = true := decide_eq_true c54
                clear c54
                by_cases c55 : ((rd_T48 t476 a2).f3) = (Int.tmod (wrap64 (Int.tdiv ((rd_T46 l0_1 a2).f0) x11_3)) 2)
                ·
                 rw [if_pos c55] at H
                 have c55b0 : (((rd_T48 t476 a2).f3) == (Int.tmod (wrap64 (Int.tdiv ((rd_T46 l0_1 a2).f0) x11_3)) 2)) = true := beq_iff_eq.mpr c55
                 have c55b1 : (((rd_T48 t476 a2).f3) != (Int.tmod (wrap64 (Int.tdiv ((rd_T46 l0_1 a2).f0) x11_3)) 2)) = false := bne_eq_false_iff_eq.mpr c55
                 clear c55
                 by_cases c56 : a2 < (t480.length : Int)
                 ·
                  rw [if_pos c56] at H
                  have c56b0 : decide (a2 < (t480.length : Int)) = true := decide_eq_true c56
                  clear c56
                  by_cases c57 : ((rd_T48 t480 a2).f3) = ((rd_T46 l0_1 a2).f0)
                  ·
                   rw [if_pos c57] at H
                   have c57b0 : (((rd_T48 t480 a2).f3) == ((rd_T46 l0_1 a2).f0)) = true := beq_iff_eq.mpr c57
                   have c57b1 : (((rd_T48 t480 a2).f3) != ((rd_T46 l0_1 a2).f0)) = false := bne_eq_false_iff_eq.mpr c57
                   clear c57
                   by_cases c58 : ((rd_T48 t476 a2).f1) = ((rd_T48 t480 a2).f1)
                   ·
                    rw [if_pos c58] at H
                    have c58b0 : (((rd_T48 t476 a2).f1) == ((rd_T48 t480 a2).f1)) = true := beq_iff_eq.mpr c58
                    have c58b1 : (((rd_T48 t476 a2).f1) != ((rd_T48 t480 a2).f1)) = false := bne_eq_false_iff_eq.mpr c58
                    clear c58
                    by_cases c59 : (wrap64 (((rd_T48 t476 a2).f2) - ((rd_T48 t476 a2).f1))) = ((rd_T46 l0_1 a2).f1)
                    ·
                     rw [if_pos c59] at H
                     have c59b0 : ((wrap64 (((rd_T48 t476 a2).f2) - ((rd_T48 t476 a2).f1))) == ((rd_T46 l0_1 a2).f1)) = true := beq_iff_eq.mpr c59
                     have c59b1 : ((wrap64 (((rd_T48 t476 a2).f2) - ((rd_T48 t476 a2).f1))) != ((rd_T46 l0_1 a2).f1)) = false := bne_eq_false_iff_eq.mpr c59
                     clear c59
                     replace H := Option.bind_eq_some_iff.mp H
                     obtain ⟨t493, A600, H⟩ := H
                     replace H : (some t493) = some r := H
                     have A60 := Aside0.mk A600
                     clear A600
                     obtain rfl := Option.some.inj H
                     obtain ⟨hcz61_0, hcz61_1⟩ := bc2 BK469.out
                     obtain ⟨hfz61_0, hfz61_1⟩ := bf2 BK469.out
                     have p484 : 0 ≤ (a2 : Int) := of_decide_eq_true (by first | (with_reducible assumption) | assumption)
                     have q484 : a2 < (l0_1.length : Int) := of_decide_eq_true (by first | (with_reducible assumption) | assumption)
                     obtain ⟨ad484, e484, hx484_0, hx484_1⟩ := at_T46 HR0_1.out a2 p484 q484
                     cases e484
                     replace hx484_0 := pw_cell_below HB.out hx484_0
                     replace hx484_1 := pw_cell_below HB.out hx484_1
                     replace p484 := eq_true p484
                     replace q484 := eq_true q484
                     try go_wp2
                     have n0_ := Aside0.mk (Kd.R_drew HO_7.out)
                     have n1_ := Aside0.mk (Kd.R_drew HO_9.out)
                     have n2_ := Aside0.mk (blk_drew BK469.out)
                     have n3_ := Aside0.mk (below_drew1 HB.out)
                     clear HO_7
                     clear HO_9
                     clear BK469
                     clear HB
                     have HO_7 := n0_
                     have HO_9 := n1_
                     have BK469 := n2_
                     have HB := n3_
                     clear n0_ n1_ n2_ n3_
                     obtain ⟨Ao63, co63, eo63⟩ := Kd.R_slice HO_7.out
                     (first | subst eo63 | (injection eo63 with f1_ f2_ f3_; have f4_ := f1_.symm; have f5_ := f3_.symm; clear f1_ f2_ f3_; subst f4_; subst f5_))
                     have p485 : 0 ≤ (a2 : Int) := of_decide_eq_true (by first | (with_reducible assumption) | assumption)
                     have q485 : a2 < (t476.length : Int) := of_decide_eq_true (by first | (with_reducible assumption) | assumption)
                     obtain ⟨ad485, e485, hx485_0, hx485_1, hx485_2, hx485_3, hx485_4, hx485_5, hx485_6⟩ := at_T48 (Kd.R_reads' HO_7.out).2.2 a2 p485 q485
                     cases e485
                     replace p485 := eq_true p485
                     replace q485 := eq_true q485
                     obtain ⟨Ao64, co64, eo64⟩ := Kd.R_slice HO_9.out
                     (first | subst eo64 | (injection eo64 with f1_ f2_ f3_; have f4_ := f1_.symm; have f5_ := f3_.symm; clear f1_ f2_ f3_; subst f4_; subst f5_))
                     have p486 : 0 ≤ (a2 : Int) := of_decide_eq_true (by first | (with_reducible assumption) | assumption)
                     have q486 : a2 < (t480.length : Int) := of_decide_eq_true (by first | (with_reducible assumption) | assumption)
                     obtain ⟨ad486, e486, hx486_0, hx486_1, hx486_2, hx486_3, hx486_4, hx486_5, hx486_6⟩ := at_T48 (Kd.R_reads' HO_9.out).2.2 a2 p486 q486
                     cases e486
                     replace p486 := eq_true p486
                     replace q486 := eq_true q486
                     have p487 : 0 ≤ (a2 : Int) := of_decide_eq_true (by first | (with_reducible assumption) | assumption)
                     have q487 : a2 < (l0_1.length : Int) := of_decide_eq_true (by first | (with_reducible assumption) | assumption)
                     obtain ⟨ad487, e487, hx487_0, hx487_1⟩ := at_T46 HR0_1.out a2 p487 q487
                     have hw487_1 := hx487_1
                     have hw487_0 := hx487_0
                     obtain rfl : ad484 = ad487 := (by injection e487)
                     replace hx487_0 := pw_cell_below HB.out hx487_0
                     replace hx487_1 := pw_cell_below HB.out hx487_1
                     replace p487 := eq_true p487
                     replace q487 := eq_true q487
                     have p488 : 0 ≤ (a2 : Int) := of_decide_eq_true (by first | (with_reducible assumption) | assumption)
                     have q488 : a2 < (t476.length : Int) := of_decide_eq_true (by first | (with_reducible assumption) | assumption)
                     obtain ⟨ad488, e488, hx488_0, hx488_1, hx488_2, hx488_3, hx488_4, hx488_5, hx488_6⟩ := at_T48 (Kd.R_reads' HO_7.out).2.2 a2 p488 q488
                     obtain rfl : ad485 = ad488 := (by injection e488)
                     replace p488 := eq_true p488
                     replace q488 := eq_true q488
                     have p489 : 0 ≤ (a2 : Int) := of_decide_eq_true (by first | (with_reducible assumption) | assumption)
                     have q489 : a2 < (t480.length : Int) := of_decide_eq_true (by first | (with_reducible assumption) | assumption)
                     obtain ⟨ad489, e489, hx489_0, hx489_1, hx489_2, hx489_3, hx489_4, hx489_5, hx489_6⟩ := at_T48 (Kd.R_reads' HO_9.out).2.2 a2 p489 q489
                     obtain rfl : ad486 = ad489 := (by injection e489)
                     replace p489 := eq_true p489
                     replace q489 := eq_true q489
                     have p490 : 0 ≤ (a2 : Int) := of_decide_eq_true (by first | (with_reducible assumption) | assumption)
                     have q490 : a2 < (t476.length : Int) := of_decide_eq_true (by first | (with_reducible assumption) | assumption)
                     obtain ⟨ad490, e490, hx490_0, hx490_1, hx490_2, hx490_3, hx490_4, hx490_5, hx490_6⟩ := at_T48 (Kd.R_reads' HO_7.out).2.2 a2 p490 q490
                     obtain rfl : ad485 = ad490 := (by injection e490)
                     replace p490 := eq_true p490
                     replace q490 := eq_true q490
                     have p491 : 0 ≤ (a2 : Int) := of_decide_eq_true (by first | (with_reducible assumption) | assumption)
                     have q491 : a2 < (t476.length : Int) := of_decide_eq_true (by first | (with_reducible assumption) | assumption)
                     obtain ⟨ad491, e491, hx491_0, hx491_1, hx491_2, hx491_3, hx491_4, hx491_5, hx491_6⟩ := at_T48 (Kd.R_reads' HO_7.out).2.2 a2 p491 q491
                     obtain rfl : ad485 = ad491 := (by injection e491)
                     replace p491 := eq_true p491
                     replace q491 := eq_true q491
                     have p492 : 0 ≤ (a2 : Int) := of_decide_eq_true (by first | (with_reducible assumption) | assumption)
                     have q492 : a2 < (l0_1.length : Int) := of_decide_eq_true (by first | (with_reducible assumption) | assumption)
                     obtain ⟨ad492, e492, hx492_0, hx492_1⟩ := at_T46 HR0_1.out a2 p492 q492
                     have hw492_1 := hx492_1
                     have hw492_0 := hx492_0
                     obtain rfl : ad484 = ad492 := (by injection e492)
                     replace hx492_0 := pw_cell_below HB.out hx492_0
                     replace hx492_1 := pw_cell_below HB.out hx492_1
                     replace p492 := eq_true p492
                     replace q492 := eq_true q492
                     refine start_ (n := 58) (S := fun w' => w'.cell? ⟨gb469, 0, none⟩ = some (.slice (some ad472) l0_0.length c0_0) ∧ w'.cell? ⟨gb469, 1, none⟩ = some (.slice (some ad484) l0_1.length c0_1) ∧ w'.cell? (ad485.add ((a2).toNat * 7)) = some (.int .i64 ((rd_T48 t476 a2).f0)) ∧ w'.cell? ⟨(ad485.add ((a2).toNat * 7)).block, (ad485.add ((a2).toNat * 7)).off + 1, none⟩ = some (.int .i64 ((rd_T48 t476 a2).f1)) ∧ w'.cell? ⟨(ad485.add ((a2).toNat * 7)).block, (ad485.add ((a2).toNat * 7)).off + 2, none⟩ = some (.int .i64 ((rd_T48 t476 a2).f2)) ∧ w'.cell? ⟨(ad485.add ((a2).toNat * 7)).block, (ad485.add ((a2).toNat * 7)).off + 3, none⟩ = some (.int .i64 ((rd_T48 t476 a2).f3)) ∧ w'.cell? ⟨(ad485.add ((a2).toNat * 7)).block, (ad485.add ((a2).toNat * 7)).off + 4, none⟩ = some (.int .i64 ((rd_T48 t476 a2).f4)) ∧ w'.cell? ⟨(ad485.add ((a2).toNat * 7)).block, (ad485.add ((a2).toNat * 7)).off + 5, none⟩ = some (.string ((rd_T48 t476 a2).f5)) ∧ w'.cell? ⟨(ad485.add ((a2).toNat * 7)).block, (ad485.add ((a2).toNat * 7)).off + 6, none⟩ = some (.int .i64 ((rd_T48 t476 a2).f6)) ∧ w'.cell? (ad486.add ((a2).toNat * 7)) = some (.int .i64 ((rd_T48 t480 a2).f0)) ∧ w'.cell? ⟨(ad486.add ((a2).toNat * 7)).block, (ad486.add ((a2).toNat * 7)).off + 1, none⟩ = some (.int .i64 ((rd_T48 t480 a2).f1)) ∧ w'.cell? ⟨(ad486.add ((a2).toNat * 7)).block, (ad486.add ((a2).toNat * 7)).off + 2, none⟩ = some (.int .i64 ((rd_T48 t480 a2).f2)) ∧ w'.cell? ⟨(ad486.add ((a2).toNat * 7)).block, (ad486.add ((a2).toNat * 7)).off + 3, none⟩ = some (.int .i64 ((rd_T48 t480 a2).f3)) ∧ w'.cell? ⟨(ad486.add ((a2).toNat * 7)).block, (ad486.add ((a2).toNat * 7)).off + 4, none⟩ = some (.int .i64 ((rd_T48 t480 a2).f4)) ∧ w'.cell? ⟨(ad486.add ((a2).toNat * 7)).block, (ad486.add ((a2).toNat * 7)).off + 5, none⟩ = some (.string ((rd_T48 t480 a2).f5)) ∧ w'.cell? ⟨(ad486.add ((a2).toNat * 7)).block, (ad486.add ((a2).toNat * 7)).off + 6, none⟩ = some (.int .i64 ((rd_T48 t480 a2).f6)) ∧ w'.cell? (ad484.add ((a2).toNat * 2)) = some (.int .i64 ((rd_T46 l0_1 a2).f0)) ∧ w'.cell? ⟨(ad484.add ((a2).toNat * 2)).block, (ad484.add ((a2).toNat * 2)).off + 1, none⟩ = some (.int .i64 ((rd_T46 l0_1 a2).f1)) ∧ w'.cell? (ad485.add ((a2).toNat * 7)) = some (.int .i64 ((rd_T48 t476 a2).f0)) ∧ w'.cell? ⟨(ad485.add ((a2).toNat * 7)).block, (ad485.add ((a2).toNat * 7)).off + 1, none⟩ = some (.int .i64 ((rd_T48 t476 a2).f1)) ∧ w'.cell? ⟨(ad485.add ((a2).toNat * 7)).block, (ad485.add ((a2).toNat * 7)).off + 2, none⟩ = some (.int .i64 ((rd_T48 t476 a2).f2)) ∧ w'.cell? ⟨(ad485.add ((a2).toNat * 7)).block, (ad485.add ((a2).toNat * 7)).off + 3, none⟩ = some (.int .i64 ((rd_T48 t476 a2).f3)) ∧ w'.cell? ⟨(ad485.add ((a2).toNat * 7)).block, (ad485.add ((a2).toNat * 7)).off + 4, none⟩ = some (.int .i64 ((rd_T48 t476 a2).f4)) ∧ w'.cell? ⟨(ad485.add ((a2).toNat * 7)).block, (ad485.add ((a2).toNat * 7)).off + 5, none⟩ = some (.string ((rd_T48 t476 a2).f5)) ∧ w'.cell? ⟨(ad485.add ((a2).toNat * 7)).block, (ad485.add ((a2).toNat * 7)).off + 6, none⟩ = some (.int .i64 ((rd_T48 t476 a2).f6)) ∧ w'.cell? (ad486.add ((a2).toNat * 7)) = some (.int .i64 ((rd_T48 t480 a2).f0)) ∧ w'.cell? ⟨(ad486.add ((a2).toNat * 7)).block, (ad486.add ((a2).toNat * 7)).off + 1, none⟩ = some (.int .i64 ((rd_T48 t480 a2).f1)) ∧ w'.cell? ⟨(ad486.add ((a2).toNat * 7)).block, (ad486.add ((a2).toNat * 7)).off + 2, none⟩ = some (.int .i64 ((rd_T48 t480 a2).f2)) ∧ w'.cell? ⟨(ad486.add ((a2).toNat * 7)).block, (ad486.add ((a2).toNat * 7)).off + 3, none⟩ = some (.int .i64 ((rd_T48 t480 a2).f3)) ∧ w'.cell? ⟨(ad486.add ((a2).toNat * 7)).block, (ad486.add ((a2).toNat * 7)).off + 4, none⟩ = some (.int .i64 ((rd_T48 t480 a2).f4)) ∧ w'.cell? ⟨(ad486.add ((a2).toNat * 7)).block, (ad486.add ((a2).toNat * 7)).off + 5, none⟩ = some (.string ((rd_T48 t480 a2).f5)) ∧ w'.cell? ⟨(ad486.add ((a2).toNat * 7)).block, (ad486.add ((a2).toNat * 7)).off + 6, none⟩ = some (.int .i64 ((rd_T48 t480 a2).f6)) ∧ w'.cell? (ad485.add ((a2).toNat * 7)) = some (.int .i64 ((rd_T48 t476 a2).f0)) ∧ w'.cell? ⟨(ad485.add ((a2).toNat * 7)).block, (ad485.add ((a2).toNat * 7)).off + 1, none⟩ = some (.int .i64 ((rd_T48 t476 a2).f1)) ∧ w'.cell? ⟨(ad485.add ((a2).toNat * 7)).block, (ad485.add ((a2).toNat * 7)).off + 2, none⟩ = some (.int .i64 ((rd_T48 t476 a2).f2)) ∧ w'.cell? ⟨(ad485.add ((a2).toNat * 7)).block, (ad485.add ((a2).toNat * 7)).off + 3, none⟩ = some (.int .i64 ((rd_T48 t476 a2).f3)) ∧ w'.cell? ⟨(ad485.add ((a2).toNat * 7)).block, (ad485.add ((a2).toNat * 7)).off + 4, none⟩ = some (.int .i64 ((rd_T48 t476 a2).f4)) ∧ w'.cell? ⟨(ad485.add ((a2).toNat * 7)).block, (ad485.add ((a2).toNat * 7)).off + 5, none⟩ = some (.string ((rd_T48 t476 a2).f5)) ∧ w'.cell? ⟨(ad485.add ((a2).toNat * 7)).block, (ad485.add ((a2).toNat * 7)).off + 6, none⟩ = some (.int .i64 ((rd_T48 t476 a2).f6)) ∧ w'.cell? (ad485.add ((a2).toNat * 7)) = some (.int .i64 ((rd_T48 t476 a2).f0)) ∧ w'.cell? ⟨(ad485.add ((a2).toNat * 7)).block, (ad485.add ((a2).toNat * 7)).off + 1, none⟩ = some (.int .i64 ((rd_T48 t476 a2).f1)) ∧ w'.cell? ⟨(ad485.add ((a2).toNat * 7)).block, (ad485.add ((a2).toNat * 7)).off + 2, none⟩ = some (.int .i64 ((rd_T48 t476 a2).f2)) ∧ w'.cell? ⟨(ad485.add ((a2).toNat * 7)).block, (ad485.add ((a2).toNat * 7)).off + 3, none⟩ = some (.int .i64 ((rd_T48 t476 a2).f3)) ∧ w'.cell? ⟨(ad485.add ((a2).toNat * 7)).block, (ad485.add ((a2).toNat * 7)).off + 4, none⟩ = some (.int .i64 ((rd_T48 t476 a2).f4)) ∧ w'.cell? ⟨(ad485.add ((a2).toNat * 7)).block, (ad485.add ((a2).toNat * 7)).off + 5, none⟩ = some (.string ((rd_T48 t476 a2).f5)) ∧ w'.cell? ⟨(ad485.add ((a2).toNat * 7)).block, (ad485.add ((a2).toNat * 7)).off + 6, none⟩ = some (.int .i64 ((rd_T48 t476 a2).f6)) ∧ w'.cell? (ad484.add ((a2).toNat * 2)) = some (.int .i64 ((rd_T46 l0_1 a2).f0)) ∧ w'.cell? ⟨(ad484.add ((a2).toNat * 2)).block, (ad484.add ((a2).toNat * 2)).off + 1, none⟩ = some (.int .i64 ((rd_T46 l0_1 a2).f1))) (ds := []) (bsq 0 58) (by kernel_rfl) rfl rfl ⟨(blk_cell BK469.out 0).trans rfl, (blk_cell BK469.out 1).trans rfl, hx485_0, hx485_1, hx485_2, hx485_3, hx485_4, hx485_5, hx485_6, hx486_0, hx486_1, hx486_2, hx486_3, hx486_4, hx486_5, hx486_6, ((HB.out.cell (World.block_lt_of_cell? w _ hw487_0)).trans hw487_0), ((HB.out.cell (World.block_lt_of_cell? w _ hw487_1)).trans hw487_1), hx488_0, hx488_1, hx488_2, hx488_3, hx488_4, hx488_5, hx488_6, hx489_0, hx489_1, hx489_2, hx489_3, hx489_4, hx489_5, hx489_6, hx490_0, hx490_1, hx490_2, hx490_3, hx490_4, hx490_5, hx490_6, hx491_0, hx491_1, hx491_2, hx491_3, hx491_4, hx491_5, hx491_6, ((HB.out.cell (World.block_lt_of_cell? w _ hw492_0)).trans hw492_0), ((HB.out.cell (World.block_lt_of_cell? w _ hw492_1)).trans hw492_1)⟩ (fun hHeld => ?_); refine with_tabW signalbenchlaw14_FeedSelects.tab13 signalbenchlaw14_FeedSelects.bits13 (fun HT_ HW_ => ?_)
                     generalize wr.drew = w62 at HO_7 HO_9 BK469 HB hx485_0 hx485_1 hx485_2 hx485_3 hx485_4 hx485_5 hx485_6 hx486_0 hx486_1 hx486_2 hx486_3 hx486_4 hx486_5 hx486_6 hx487_0 hx487_1 hx488_0 hx488_1 hx488_2 hx488_3 hx488_4 hx488_5 hx488_6 hx489_0 hx489_1 hx489_2 hx489_3 hx489_4 hx489_5 hx489_6 hx490_0 hx490_1 hx490_2 hx490_3 hx490_4 hx490_5 hx490_6 hx491_0 hx491_1 hx491_2 hx491_3 hx491_4 hx491_5 hx491_6 hx492_0 hx492_1 hHeld ⊢
                     refine pu 0 102 (bsq 1 57) ?_
                     refine pu 1 103 (bsq 2 56) ?_
                     refine pu 2 104 (bsq 3 55) ?_
                     refine pu 3 105 (bsq 4 54) ?_
                     refine pu 5 107 (bls [4, 1, 1, 52]) ?_
                     refine tk 4 106 (bsq 6 52) hHeld ?_ (he := by rintro w' ⟨s0, s1, s2, s3, s4, s5, s6, s7, s8, s9, s10, s11, s12, s13, s14, s15, s16, s17, s18, s19, s20, s21, s22, s23, s24, s25, s26, s27, s28, s29, s30, s31, s32, s33, s34, s35, s36, s37, s38, s39, s40, s41, s42, s43, s44, s45, s46, s47⟩; go_simp; with_reducible rfl)
                     refine pu 6 108 (bsq 7 51) ?_
                     refine pu 7 109 (bsq 8 50) ?_
                     refine pu 8 110 (bsq 9 49) ?_
                     refine pu 9 111 (bsq 10 48) ?_
                     refine pu 10 112 (bsq 11 47) ?_
                     refine pu 11 113 (bsq 12 46) ?_
                     refine pu 13 115 (bls [12, 1, 1, 44]) ?_
                     refine pu 15 117 (bls [12, 1, 1, 1, 1, 42]) ?_
                     refine tk 12 114 (bls [14, 1, 1, 42]) hHeld ?_ (he := by rintro w' ⟨s0, s1, s2, s3, s4, s5, s6, s7, s8, s9, s10, s11, s12, s13, s14, s15, s16, s17, s18, s19, s20, s21, s22, s23, s24, s25, s26, s27, s28, s29, s30, s31, s32, s33, s34, s35, s36, s37, s38, s39, s40, s41, s42, s43, s44, s45, s46, s47⟩; go_simp; with_reducible rfl)
                     refine tk 14 116 (bsq 16 42) hHeld ?_ (he := by rintro w' ⟨s0, s1, s2, s3, s4, s5, s6, s7, s8, s9, s10, s11, s12, s13, s14, s15, s16, s17, s18, s19, s20, s21, s22, s23, s24, s25, s26, s27, s28, s29, s30, s31, s32, s33, s34, s35, s36, s37, s38, s39, s40, s41, s42, s43, s44, s45, s46, s47⟩; go_simp; with_reducible rfl)
                     refine pu 16 118 (bsq 17 41) ?_
                     refine pu 17 119 (bsq 18 40) ?_
                     refine tk 18 120 (bsq 19 39) hHeld ?_ (he := by rintro w' ⟨s0, s1, s2, s3, s4, s5, s6, s7, s8, s9, s10, s11, s12, s13, s14, s15, s16, s17, s18, s19, s20, s21, s22, s23, s24, s25, s26, s27, s28, s29, s30, s31, s32, s33, s34, s35, s36, s37, s38, s39, s40, s41, s42, s43, s44, s45, s46, s47⟩; go_simp; with_reducible rfl)
                     refine pu 19 121 (bsq 20 38) ?_
                     refine pu 20 122 (bsq 21 37) ?_
                     refine pu 21 123 (bsq 22 36) ?_
                     refine pu 22 124 (bsq 23 35) ?_
                     refine pu 23 125 (bsq 24 34) ?_
                     refine pu 24 126 (bsq 25 33) ?_
                     refine pu 25 127 (bsq 26 32) ?_
                     refine pu 27 129 (bls [26, 1, 1, 30]) ?_
                     refine pu 28 130 (bls [26, 1, 2, 29]) ?_
                     refine pu 29 131 (bls [26, 1, 3, 28]) ?_
                     refine pu 30 132 (bls [26, 1, 4, 27]) ?_
                     refine tk 26 128 (bsq 31 27) hHeld ?_ (he := by rintro w' ⟨s0, s1, s2, s3, s4, s5, s6, s7, s8, s9, s10, s11, s12, s13, s14, s15, s16, s17, s18, s19, s20, s21, s22, s23, s24, s25, s26, s27, s28, s29, s30, s31, s32, s33, s34, s35, s36, s37, s38, s39, s40, s41, s42, s43, s44, s45, s46, s47⟩; go_simp; with_reducible rfl)
                     refine tk 31 133 (bsq 32 26) hHeld ?_ (he := by rintro w' ⟨s0, s1, s2, s3, s4, s5, s6, s7, s8, s9, s10, s11, s12, s13, s14, s15, s16, s17, s18, s19, s20, s21, s22, s23, s24, s25, s26, s27, s28, s29, s30, s31, s32, s33, s34, s35, s36, s37, s38, s39, s40, s41, s42, s43, s44, s45, s46, s47⟩; go_simp; with_reducible rfl)
                     refine pu 32 134 (bsq 33 25) ?_
                     refine pu 33 135 (bsq 34 24) ?_
                     refine pu 34 136 (bsq 35 23) ?_
                     refine pu 35 137 (bsq 36 22) ?_
                     refine pu 36 138 (bsq 37 21) ?_
                     refine pu 37 139 (bsq 38 20) ?_
                     refine pu 38 140 (bsq 39 19) ?_
                     refine pu 40 142 (bls [39, 1, 1, 17]) ?_
                     refine pu 41 143 (bls [39, 1, 2, 16]) ?_
                     refine pu 42 144 (bls [39, 1, 3, 15]) ?_
                     refine pu 43 145 (bls [39, 1, 4, 14]) ?_
                     refine pu 46 148 (bls [39, 1, 4, 2, 1, 11]) ?_
                     refine pu 48 150 (bls [39, 1, 4, 2, 1, 1, 1, 9]) ?_
                     refine tk 39 141 (bls [44, 2, 1, 1, 1, 9]) hHeld ?_ (he := by rintro w' ⟨s0, s1, s2, s3, s4, s5, s6, s7, s8, s9, s10, s11, s12, s13, s14, s15, s16, s17, s18, s19, s20, s21, s22, s23, s24, s25, s26, s27, s28, s29, s30, s31, s32, s33, s34, s35, s36, s37, s38, s39, s40, s41, s42, s43, s44, s45, s46, s47⟩; go_simp; with_reducible rfl)
                     refine tk 44 146 (bls [45, 1, 1, 1, 1, 9]) hHeld ?_ (he := by rintro w' ⟨s0, s1, s2, s3, s4, s5, s6, s7, s8, s9, s10, s11, s12, s13, s14, s15, s16, s17, s18, s19, s20, s21, s22, s23, s24, s25, s26, s27, s28, s29, s30, s31, s32, s33, s34, s35, s36, s37, s38, s39, s40, s41, s42, s43, s44, s45, s46, s47⟩; go_simp; with_reducible rfl)
                     refine pu 45 147 (bls [47, 1, 1, 9]) ?_
                     refine tk 47 149 (bsq 49 9) hHeld ?_ (he := by rintro w' ⟨s0, s1, s2, s3, s4, s5, s6, s7, s8, s9, s10, s11, s12, s13, s14, s15, s16, s17, s18, s19, s20, s21, s22, s23, s24, s25, s26, s27, s28, s29, s30, s31, s32, s33, s34, s35, s36, s37, s38, s39, s40, s41, s42, s43, s44, s45, s46, s47⟩; go_simp; with_reducible rfl)
                     refine pu 49 151 (bsq 50 8) ?_
                     refine pu 50 152 (bsq 51 7) ?_
                     refine tk 51 153 (bsq 52 6) hHeld ?_ (he := by rintro w' ⟨s0, s1, s2, s3, s4, s5, s6, s7, s8, s9, s10, s11, s12, s13, s14, s15, s16, s17, s18, s19, s20, s21, s22, s23, s24, s25, s26, s27, s28, s29, s30, s31, s32, s33, s34, s35, s36, s37, s38, s39, s40, s41, s42, s43, s44, s45, s46, s47⟩; go_simp; with_reducible rfl)
                     refine pu 52 154 (bsq 53 5) ?_
                     refine pu 53 155 (bsq 54 4) ?_
                     refine pu 54 156 (bsq 55 3) ?_
                     refine one_ (i := 55) (N := some 157) (bsq 56 2) rfl rfl (one_of HT_.out (by kernel_rfl)) (by decide) (fun K hK => ?_)
                     refine goes_ Try.func12 (by kernel_rfl) rfl #[] (by rfl) rfl rfl (by (try simp only [List.map_toArray, List.map_cons, List.map_nil]); first | done | rfl | (simp only [List.length_drop, List.length_take]; rfl)) ?_
                     with_reducible refine (signalbenchlaw14_awake.calls  t493 _ A60.out).mono ?_
                     rintro e w65 ⟨rfl, hb⟩
                     have HS2_ := (hb.cell (World.block_lt_of_cell? _ _ (hHeld.2.2.1))).trans (hHeld.2.2.1)
                     have HS3_ := (hb.cell (World.block_lt_of_cell? _ _ (hHeld.2.2.2.1))).trans (hHeld.2.2.2.1)
                     have HS4_ := (hb.cell (World.block_lt_of_cell? _ _ (hHeld.2.2.2.2.1))).trans (hHeld.2.2.2.2.1)
                     have HS5_ := (hb.cell (World.block_lt_of_cell? _ _ (hHeld.2.2.2.2.2.1))).trans (hHeld.2.2.2.2.2.1)
                     have HS6_ := (hb.cell (World.block_lt_of_cell? _ _ (hHeld.2.2.2.2.2.2.1))).trans (hHeld.2.2.2.2.2.2.1)
                     have HS7_ := (hb.cell (World.block_lt_of_cell? _ _ (hHeld.2.2.2.2.2.2.2.1))).trans (hHeld.2.2.2.2.2.2.2.1)
                     have HS8_ := (hb.cell (World.block_lt_of_cell? _ _ (hHeld.2.2.2.2.2.2.2.2.1))).trans (hHeld.2.2.2.2.2.2.2.2.1)
                     have HS9_ := (hb.cell (World.block_lt_of_cell? _ _ (hHeld.2.2.2.2.2.2.2.2.2.1))).trans (hHeld.2.2.2.2.2.2.2.2.2.1)
                     have HS10_ := (hb.cell (World.block_lt_of_cell? _ _ (hHeld.2.2.2.2.2.2.2.2.2.2.1))).trans (hHeld.2.2.2.2.2.2.2.2.2.2.1)
                     have HS11_ := (hb.cell (World.block_lt_of_cell? _ _ (hHeld.2.2.2.2.2.2.2.2.2.2.2.1))).trans (hHeld.2.2.2.2.2.2.2.2.2.2.2.1)
                     have HS12_ := (hb.cell (World.block_lt_of_cell? _ _ (hHeld.2.2.2.2.2.2.2.2.2.2.2.2.1))).trans (hHeld.2.2.2.2.2.2.2.2.2.2.2.2.1)
                     have HS13_ := (hb.cell (World.block_lt_of_cell? _ _ (hHeld.2.2.2.2.2.2.2.2.2.2.2.2.2.1))).trans (hHeld.2.2.2.2.2.2.2.2.2.2.2.2.2.1)
                     have HS14_ := (hb.cell (World.block_lt_of_cell? _ _ (hHeld.2.2.2.2.2.2.2.2.2.2.2.2.2.2.1))).trans (hHeld.2.2.2.2.2.2.2.2.2.2.2.2.2.2.1)
                     have HS15_ := (hb.cell (World.block_lt_of_cell? _ _ (hHeld.2.2.2.2.2.2.2.2.2.2.2.2.2.2.2.1))).trans (hHeld.2.2.2.2.2.2.2.2.2.2.2.2.2.2.2.1)
                     have HS18_ := (hb.cell (World.block_lt_of_cell? _ _ (hHeld.2.2.2.2.2.2.2.2.2.2.2.2.2.2.2.2.2.2.1))).trans (hHeld.2.2.2.2.2.2.2.2.2.2.2.2.2.2.2.2.2.2.1)
                     have HS19_ := (hb.cell (World.block_lt_of_cell? _ _ (hHeld.2.2.2.2.2.2.2.2.2.2.2.2.2.2.2.2.2.2.2.1))).trans (hHeld.2.2.2.2.2.2.2.2.2.2.2.2.2.2.2.2.2.2.2.1)
                     have HS20_ := (hb.cell (World.block_lt_of_cell? _ _ (hHeld.2.2.2.2.2.2.2.2.2.2.2.2.2.2.2.2.2.2.2.2.1))).trans (hHeld.2.2.2.2.2.2.2.2.2.2.2.2.2.2.2.2.2.2.2.2.1)
                     have HS21_ := (hb.cell (World.block_lt_of_cell? _ _ (hHeld.2.2.2.2.2.2.2.2.2.2.2.2.2.2.2.2.2.2.2.2.2.1))).trans (hHeld.2.2.2.2.2.2.2.2.2.2.2.2.2.2.2.2.2.2.2.2.2.1)
                     have HS22_ := (hb.cell (World.block_lt_of_cell? _ _ (hHeld.2.2.2.2.2.2.2.2.2.2.2.2.2.2.2.2.2.2.2.2.2.2.1))).trans (hHeld.2.2.2.2.2.2.2.2.2.2.2.2.2.2.2.2.2.2.2.2.2.2.1)
                     have HS23_ := (hb.cell (World.block_lt_of_cell? _ _ (hHeld.2.2.2.2.2.2.2.2.2.2.2.2.2.2.2.2.2.2.2.2.2.2.2.1))).trans (hHeld.2.2.2.2.2.2.2.2.2.2.2.2.2.2.2.2.2.2.2.2.2.2.2.1)
                     have HS24_ := (hb.cell (World.block_lt_of_cell? _ _ (hHeld.2.2.2.2.2.2.2.2.2.2.2.2.2.2.2.2.2.2.2.2.2.2.2.2.1))).trans (hHeld.2.2.2.2.2.2.2.2.2.2.2.2.2.2.2.2.2.2.2.2.2.2.2.2.1)
                     have HS25_ := (hb.cell (World.block_lt_of_cell? _ _ (hHeld.2.2.2.2.2.2.2.2.2.2.2.2.2.2.2.2.2.2.2.2.2.2.2.2.2.1))).trans (hHeld.2.2.2.2.2.2.2.2.2.2.2.2.2.2.2.2.2.2.2.2.2.2.2.2.2.1)
                     have HS26_ := (hb.cell (World.block_lt_of_cell? _ _ (hHeld.2.2.2.2.2.2.2.2.2.2.2.2.2.2.2.2.2.2.2.2.2.2.2.2.2.2.1))).trans (hHeld.2.2.2.2.2.2.2.2.2.2.2.2.2.2.2.2.2.2.2.2.2.2.2.2.2.2.1)
                     have HS27_ := (hb.cell (World.block_lt_of_cell? _ _ (hHeld.2.2.2.2.2.2.2.2.2.2.2.2.2.2.2.2.2.2.2.2.2.2.2.2.2.2.2.1))).trans (hHeld.2.2.2.2.2.2.2.2.2.2.2.2.2.2.2.2.2.2.2.2.2.2.2.2.2.2.2.1)
                     have HS28_ := (hb.cell (World.block_lt_of_cell? _ _ (hHeld.2.2.2.2.2.2.2.2.2.2.2.2.2.2.2.2.2.2.2.2.2.2.2.2.2.2.2.2.1))).trans (hHeld.2.2.2.2.2.2.2.2.2.2.2.2.2.2.2.2.2.2.2.2.2.2.2.2.2.2.2.2.1)
                     have HS29_ := (hb.cell (World.block_lt_of_cell? _ _ (hHeld.2.2.2.2.2.2.2.2.2.2.2.2.2.2.2.2.2.2.2.2.2.2.2.2.2.2.2.2.2.1))).trans (hHeld.2.2.2.2.2.2.2.2.2.2.2.2.2.2.2.2.2.2.2.2.2.2.2.2.2.2.2.2.2.1)
                     have HS30_ := (hb.cell (World.block_lt_of_cell? _ _ (hHeld.2.2.2.2.2.2.2.2.2.2.2.2.2.2.2.2.2.2.2.2.2.2.2.2.2.2.2.2.2.2.1))).trans (hHeld.2.2.2.2.2.2.2.2.2.2.2.2.2.2.2.2.2.2.2.2.2.2.2.2.2.2.2.2.2.2.1)
                     have HS31_ := (hb.cell (World.block_lt_of_cell? _ _ (hHeld.2.2.2.2.2.2.2.2.2.2.2.2.2.2.2.2.2.2.2.2.2.2.2.2.2.2.2.2.2.2.2.1))).trans (hHeld.2.2.2.2.2.2.2.2.2.2.2.2.2.2.2.2.2.2.2.2.2.2.2.2.2.2.2.2.2.2.2.1)
                     have HS32_ := (hb.cell (World.block_lt_of_cell? _ _ (hHeld.2.2.2.2.2.2.2.2.2.2.2.2.2.2.2.2.2.2.2.2.2.2.2.2.2.2.2.2.2.2.2.2.1))).trans (hHeld.2.2.2.2.2.2.2.2.2.2.2.2.2.2.2.2.2.2.2.2.2.2.2.2.2.2.2.2.2.2.2.2.1)
                     have HS33_ := (hb.cell (World.block_lt_of_cell? _ _ (hHeld.2.2.2.2.2.2.2.2.2.2.2.2.2.2.2.2.2.2.2.2.2.2.2.2.2.2.2.2.2.2.2.2.2.1))).trans (hHeld.2.2.2.2.2.2.2.2.2.2.2.2.2.2.2.2.2.2.2.2.2.2.2.2.2.2.2.2.2.2.2.2.2.1)
                     have HS34_ := (hb.cell (World.block_lt_of_cell? _ _ (hHeld.2.2.2.2.2.2.2.2.2.2.2.2.2.2.2.2.2.2.2.2.2.2.2.2.2.2.2.2.2.2.2.2.2.2.1))).trans (hHeld.2.2.2.2.2.2.2.2.2.2.2.2.2.2.2.2.2.2.2.2.2.2.2.2.2.2.2.2.2.2.2.2.2.2.1)
                     have HS35_ := (hb.cell (World.block_lt_of_cell? _ _ (hHeld.2.2.2.2.2.2.2.2.2.2.2.2.2.2.2.2.2.2.2.2.2.2.2.2.2.2.2.2.2.2.2.2.2.2.2.1))).trans (hHeld.2.2.2.2.2.2.2.2.2.2.2.2.2.2.2.2.2.2.2.2.2.2.2.2.2.2.2.2.2.2.2.2.2.2.2.1)
                     have HS36_ := (hb.cell (World.block_lt_of_cell? _ _ (hHeld.2.2.2.2.2.2.2.2.2.2.2.2.2.2.2.2.2.2.2.2.2.2.2.2.2.2.2.2.2.2.2.2.2.2.2.2.1))).trans (hHeld.2.2.2.2.2.2.2.2.2.2.2.2.2.2.2.2.2.2.2.2.2.2.2.2.2.2.2.2.2.2.2.2.2.2.2.2.1)
                     have HS37_ := (hb.cell (World.block_lt_of_cell? _ _ (hHeld.2.2.2.2.2.2.2.2.2.2.2.2.2.2.2.2.2.2.2.2.2.2.2.2.2.2.2.2.2.2.2.2.2.2.2.2.2.1))).trans (hHeld.2.2.2.2.2.2.2.2.2.2.2.2.2.2.2.2.2.2.2.2.2.2.2.2.2.2.2.2.2.2.2.2.2.2.2.2.2.1)
                     have HS38_ := (hb.cell (World.block_lt_of_cell? _ _ (hHeld.2.2.2.2.2.2.2.2.2.2.2.2.2.2.2.2.2.2.2.2.2.2.2.2.2.2.2.2.2.2.2.2.2.2.2.2.2.2.1))).trans (hHeld.2.2.2.2.2.2.2.2.2.2.2.2.2.2.2.2.2.2.2.2.2.2.2.2.2.2.2.2.2.2.2.2.2.2.2.2.2.2.1)
                     have HS39_ := (hb.cell (World.block_lt_of_cell? _ _ (hHeld.2.2.2.2.2.2.2.2.2.2.2.2.2.2.2.2.2.2.2.2.2.2.2.2.2.2.2.2.2.2.2.2.2.2.2.2.2.2.2.1))).trans (hHeld.2.2.2.2.2.2.2.2.2.2.2.2.2.2.2.2.2.2.2.2.2.2.2.2.2.2.2.2.2.2.2.2.2.2.2.2.2.2.2.1)
                     have HS40_ := (hb.cell (World.block_lt_of_cell? _ _ (hHeld.2.2.2.2.2.2.2.2.2.2.2.2.2.2.2.2.2.2.2.2.2.2.2.2.2.2.2.2.2.2.2.2.2.2.2.2.2.2.2.2.1))).trans (hHeld.2.2.2.2.2.2.2.2.2.2.2.2.2.2.2.2.2.2.2.2.2.2.2.2.2.2.2.2.2.2.2.2.2.2.2.2.2.2.2.2.1)
                     have HS41_ := (hb.cell (World.block_lt_of_cell? _ _ (hHeld.2.2.2.2.2.2.2.2.2.2.2.2.2.2.2.2.2.2.2.2.2.2.2.2.2.2.2.2.2.2.2.2.2.2.2.2.2.2.2.2.2.1))).trans (hHeld.2.2.2.2.2.2.2.2.2.2.2.2.2.2.2.2.2.2.2.2.2.2.2.2.2.2.2.2.2.2.2.2.2.2.2.2.2.2.2.2.2.1)
                     have HS42_ := (hb.cell (World.block_lt_of_cell? _ _ (hHeld.2.2.2.2.2.2.2.2.2.2.2.2.2.2.2.2.2.2.2.2.2.2.2.2.2.2.2.2.2.2.2.2.2.2.2.2.2.2.2.2.2.2.1))).trans (hHeld.2.2.2.2.2.2.2.2.2.2.2.2.2.2.2.2.2.2.2.2.2.2.2.2.2.2.2.2.2.2.2.2.2.2.2.2.2.2.2.2.2.2.1)
                     have HS43_ := (hb.cell (World.block_lt_of_cell? _ _ (hHeld.2.2.2.2.2.2.2.2.2.2.2.2.2.2.2.2.2.2.2.2.2.2.2.2.2.2.2.2.2.2.2.2.2.2.2.2.2.2.2.2.2.2.2.1))).trans (hHeld.2.2.2.2.2.2.2.2.2.2.2.2.2.2.2.2.2.2.2.2.2.2.2.2.2.2.2.2.2.2.2.2.2.2.2.2.2.2.2.2.2.2.2.1)
                     have HS44_ := (hb.cell (World.block_lt_of_cell? _ _ (hHeld.2.2.2.2.2.2.2.2.2.2.2.2.2.2.2.2.2.2.2.2.2.2.2.2.2.2.2.2.2.2.2.2.2.2.2.2.2.2.2.2.2.2.2.2.1))).trans (hHeld.2.2.2.2.2.2.2.2.2.2.2.2.2.2.2.2.2.2.2.2.2.2.2.2.2.2.2.2.2.2.2.2.2.2.2.2.2.2.2.2.2.2.2.2.1)
                     have HS45_ := (hb.cell (World.block_lt_of_cell? _ _ (hHeld.2.2.2.2.2.2.2.2.2.2.2.2.2.2.2.2.2.2.2.2.2.2.2.2.2.2.2.2.2.2.2.2.2.2.2.2.2.2.2.2.2.2.2.2.2.1))).trans (hHeld.2.2.2.2.2.2.2.2.2.2.2.2.2.2.2.2.2.2.2.2.2.2.2.2.2.2.2.2.2.2.2.2.2.2.2.2.2.2.2.2.2.2.2.2.2.1)
                     refine ⟨_, rfl, ?_⟩
                     have n0_ := Aside0.mk (Kd.R_below (rq HO_7.out) hb)
                     have n1_ := Aside0.mk (Kd.R_below (rq HO_9.out) hb)
                     have n2_ := Aside0.mk (blk_below (bg BK469.out) hb)
                     have n3_ := Aside0.mk (below_step (bs HB.out) hb)
                     clear HO_7
                     clear HO_9
                     clear BK469
                     clear HB
                     have HO_7 := n0_
                     have HO_9 := n1_
                     have BK469 := n2_
                     have HB := n3_
                     clear n0_ n1_ n2_ n3_
                     (try clear hb)
                     (try clear hb2)
                     (try clear hk)
                     (try clear hi)
                     refine hK.out _ _ ⟨(blk_cell BK469.out 0).trans rfl, (blk_cell BK469.out 1).trans rfl, HS2_, HS3_, HS4_, HS5_, HS6_, HS7_, HS8_, HS9_, HS10_, HS11_, HS12_, HS13_, HS14_, HS15_, ((HB.out.cell (World.block_lt_of_cell? w _ hw487_0)).trans hw487_0), ((HB.out.cell (World.block_lt_of_cell? w _ hw487_1)).trans hw487_1), HS18_, HS19_, HS20_, HS21_, HS22_, HS23_, HS24_, HS25_, HS26_, HS27_, HS28_, HS29_, HS30_, HS31_, HS32_, HS33_, HS34_, HS35_, HS36_, HS37_, HS38_, HS39_, HS40_, HS41_, HS42_, HS43_, HS44_, HS45_, ((HB.out.cell (World.block_lt_of_cell? w _ hw492_0)).trans hw492_0), ((HB.out.cell (World.block_lt_of_cell? w _ hw492_1)).trans hw492_1)⟩ (fun hHeld => ?_)
                     clear hK K
                     refine norm_ (a' := ?_) ?_ ?_
                     rotate_left
                     ·
                      show Act.put _ (some 157) _ = _
                      simp only [Act.put, List.setIfInBounds_toArray, List.set_cons_zero, List.set_cons_succ, i64_w, i32_w]
                      rfl
                     refine pu 56 158 (bsq 57 1) ?_
                     refine pu 57 6 (bsq 58 0) ?_
                     refine done_ (done_of HT_.out (by kernel_rfl)) ?_
                     try go_wp2
                     go_ret
                     exact ⟨by first | rfl | (simp [errW_none, errW_some] <;> rfl) | (simp [*, errW_none, errW_some] <;> rfl), bs HB.out⟩
                    ·
                     rw [if_neg c59] at H
                     have c59b0 : ((wrap64 (((rd_T48 t476 a2).f2) - ((rd_T48 t476 a2).f1))) == ((rd_T46 l0_1 a2).f1)) = false := beq_eq_false_iff_ne.mpr c59
                     have c59b1 : ((wrap64 (((rd_T48 t476 a2).f2) - ((rd_T48 t476 a2).f1))) != ((rd_T46 l0_1 a2).f1)) = true := bne_iff_ne.mpr c59
                     obtain rfl := Option.some.inj H
                     obtain ⟨hcz66_0, hcz66_1⟩ := bc2 BK469.out
                     obtain ⟨hfz66_0, hfz66_1⟩ := bf2 BK469.out
                     have p484 : 0 ≤ (a2 : Int) := of_decide_eq_true (by first | (with_reducible assumption) | assumption)
                     have q484 : a2 < (l0_1.length : Int) := of_decide_eq_true (by first | (with_reducible assumption) | assumption)
                     obtain ⟨ad484, e484, hx484_0, hx484_1⟩ := at_T46 HR0_1.out a2 p484 q484
                     cases e484
                     replace hx484_0 := pw_cell_below HB.out hx484_0
                     replace hx484_1 := pw_cell_below HB.out hx484_1
                     replace p484 := eq_true p484
                     replace q484 := eq_true q484
                     try go_wp2
                     have n0_ := Aside0.mk (Kd.R_drew HO_7.out)
                     have n1_ := Aside0.mk (Kd.R_drew HO_9.out)
                     have n2_ := Aside0.mk (blk_drew BK469.out)
                     have n3_ := Aside0.mk (below_drew1 HB.out)
                     clear HO_7
                     clear HO_9
                     clear BK469
                     clear HB
                     have HO_7 := n0_
                     have HO_9 := n1_
                     have BK469 := n2_
                     have HB := n3_
                     clear n0_ n1_ n2_ n3_
                     obtain ⟨Ao68, co68, eo68⟩ := Kd.R_slice HO_7.out
                     (first | subst eo68 | (injection eo68 with f1_ f2_ f3_; have f4_ := f1_.symm; have f5_ := f3_.symm; clear f1_ f2_ f3_; subst f4_; subst f5_))
                     have p485 : 0 ≤ (a2 : Int) := of_decide_eq_true (by first | (with_reducible assumption) | assumption)
                     have q485 : a2 < (t476.length : Int) := of_decide_eq_true (by first | (with_reducible assumption) | assumption)
                     obtain ⟨ad485, e485, hx485_0, hx485_1, hx485_2, hx485_3, hx485_4, hx485_5, hx485_6⟩ := at_T48 (Kd.R_reads' HO_7.out).2.2 a2 p485 q485
                     cases e485
                     replace p485 := eq_true p485
                     replace q485 := eq_true q485
                     obtain ⟨Ao69, co69, eo69⟩ := Kd.R_slice HO_9.out
                     (first | subst eo69 | (injection eo69 with f1_ f2_ f3_; have f4_ := f1_.symm; have f5_ := f3_.symm; clear f1_ f2_ f3_; subst f4_; subst f5_))
                     have p486 : 0 ≤ (a2 : Int) := of_decide_eq_true (by first | (with_reducible assumption) | assumption)
                     have q486 : a2 < (t480.length : Int) := of_decide_eq_true (by first | (with_reducible assumption) | assumption)
                     obtain ⟨ad486, e486, hx486_0, hx486_1, hx486_2, hx486_3, hx486_4, hx486_5, hx486_6⟩ := at_T48 (Kd.R_reads' HO_9.out).2.2 a2 p486 q486
                     cases e486
                     replace p486 := eq_true p486
                     replace q486 := eq_true q486
                     have p487 : 0 ≤ (a2 : Int) := of_decide_eq_true (by first | (with_reducible assumption) | assumption)
                     have q487 : a2 < (l0_1.length : Int) := of_decide_eq_true (by first | (with_reducible assumption) | assumption)
                     obtain ⟨ad487, e487, hx487_0, hx487_1⟩ := at_T46 HR0_1.out a2 p487 q487
                     have hw487_1 := hx487_1
                     have hw487_0 := hx487_0
                     obtain rfl : ad484 = ad487 := (by injection e487)
                     replace hx487_0 := pw_cell_below HB.out hx487_0
                     replace hx487_1 := pw_cell_below HB.out hx487_1
                     replace p487 := eq_true p487
                     replace q487 := eq_true q487
                     have p488 : 0 ≤ (a2 : Int) := of_decide_eq_true (by first | (with_reducible assumption) | assumption)
                     have q488 : a2 < (t476.length : Int) := of_decide_eq_true (by first | (with_reducible assumption) | assumption)
                     obtain ⟨ad488, e488, hx488_0, hx488_1, hx488_2, hx488_3, hx488_4, hx488_5, hx488_6⟩ := at_T48 (Kd.R_reads' HO_7.out).2.2 a2 p488 q488
                     obtain rfl : ad485 = ad488 := (by injection e488)
                     replace p488 := eq_true p488
                     replace q488 := eq_true q488
                     have p489 : 0 ≤ (a2 : Int) := of_decide_eq_true (by first | (with_reducible assumption) | assumption)
                     have q489 : a2 < (t480.length : Int) := of_decide_eq_true (by first | (with_reducible assumption) | assumption)
                     obtain ⟨ad489, e489, hx489_0, hx489_1, hx489_2, hx489_3, hx489_4, hx489_5, hx489_6⟩ := at_T48 (Kd.R_reads' HO_9.out).2.2 a2 p489 q489
                     obtain rfl : ad486 = ad489 := (by injection e489)
                     replace p489 := eq_true p489
                     replace q489 := eq_true q489
                     have p490 : 0 ≤ (a2 : Int) := of_decide_eq_true (by first | (with_reducible assumption) | assumption)
                     have q490 : a2 < (t476.length : Int) := of_decide_eq_true (by first | (with_reducible assumption) | assumption)
                     obtain ⟨ad490, e490, hx490_0, hx490_1, hx490_2, hx490_3, hx490_4, hx490_5, hx490_6⟩ := at_T48 (Kd.R_reads' HO_7.out).2.2 a2 p490 q490
                     obtain rfl : ad485 = ad490 := (by injection e490)
                     replace p490 := eq_true p490
                     replace q490 := eq_true q490
                     have p491 : 0 ≤ (a2 : Int) := of_decide_eq_true (by first | (with_reducible assumption) | assumption)
                     have q491 : a2 < (t476.length : Int) := of_decide_eq_true (by first | (with_reducible assumption) | assumption)
                     obtain ⟨ad491, e491, hx491_0, hx491_1, hx491_2, hx491_3, hx491_4, hx491_5, hx491_6⟩ := at_T48 (Kd.R_reads' HO_7.out).2.2 a2 p491 q491
                     obtain rfl : ad485 = ad491 := (by injection e491)
                     replace p491 := eq_true p491
                     replace q491 := eq_true q491
                     have p492 : 0 ≤ (a2 : Int) := of_decide_eq_true (by first | (with_reducible assumption) | assumption)
                     have q492 : a2 < (l0_1.length : Int) := of_decide_eq_true (by first | (with_reducible assumption) | assumption)
                     obtain ⟨ad492, e492, hx492_0, hx492_1⟩ := at_T46 HR0_1.out a2 p492 q492
                     have hw492_1 := hx492_1
                     have hw492_0 := hx492_0
                     obtain rfl : ad484 = ad492 := (by injection e492)
                     replace hx492_0 := pw_cell_below HB.out hx492_0
                     replace hx492_1 := pw_cell_below HB.out hx492_1
                     replace p492 := eq_true p492
                     replace q492 := eq_true q492
                     refine start_ (n := 58) (S := fun w' => w'.cell? ⟨gb469, 0, none⟩ = some (.slice (some ad472) l0_0.length c0_0) ∧ w'.cell? ⟨gb469, 1, none⟩ = some (.slice (some ad484) l0_1.length c0_1) ∧ w'.cell? (ad485.add ((a2).toNat * 7)) = some (.int .i64 ((rd_T48 t476 a2).f0)) ∧ w'.cell? ⟨(ad485.add ((a2).toNat * 7)).block, (ad485.add ((a2).toNat * 7)).off + 1, none⟩ = some (.int .i64 ((rd_T48 t476 a2).f1)) ∧ w'.cell? ⟨(ad485.add ((a2).toNat * 7)).block, (ad485.add ((a2).toNat * 7)).off + 2, none⟩ = some (.int .i64 ((rd_T48 t476 a2).f2)) ∧ w'.cell? ⟨(ad485.add ((a2).toNat * 7)).block, (ad485.add ((a2).toNat * 7)).off + 3, none⟩ = some (.int .i64 ((rd_T48 t476 a2).f3)) ∧ w'.cell? ⟨(ad485.add ((a2).toNat * 7)).block, (ad485.add ((a2).toNat * 7)).off + 4, none⟩ = some (.int .i64 ((rd_T48 t476 a2).f4)) ∧ w'.cell? ⟨(ad485.add ((a2).toNat * 7)).block, (ad485.add ((a2).toNat * 7)).off + 5, none⟩ = some (.string ((rd_T48 t476 a2).f5)) ∧ w'.cell? ⟨(ad485.add ((a2).toNat * 7)).block, (ad485.add ((a2).toNat * 7)).off + 6, none⟩ = some (.int .i64 ((rd_T48 t476 a2).f6)) ∧ w'.cell? (ad486.add ((a2).toNat * 7)) = some (.int .i64 ((rd_T48 t480 a2).f0)) ∧ w'.cell? ⟨(ad486.add ((a2).toNat * 7)).block, (ad486.add ((a2).toNat * 7)).off + 1, none⟩ = some (.int .i64 ((rd_T48 t480 a2).f1)) ∧ w'.cell? ⟨(ad486.add ((a2).toNat * 7)).block, (ad486.add ((a2).toNat * 7)).off + 2, none⟩ = some (.int .i64 ((rd_T48 t480 a2).f2)) ∧ w'.cell? ⟨(ad486.add ((a2).toNat * 7)).block, (ad486.add ((a2).toNat * 7)).off + 3, none⟩ = some (.int .i64 ((rd_T48 t480 a2).f3)) ∧ w'.cell? ⟨(ad486.add ((a2).toNat * 7)).block, (ad486.add ((a2).toNat * 7)).off + 4, none⟩ = some (.int .i64 ((rd_T48 t480 a2).f4)) ∧ w'.cell? ⟨(ad486.add ((a2).toNat * 7)).block, (ad486.add ((a2).toNat * 7)).off + 5, none⟩ = some (.string ((rd_T48 t480 a2).f5)) ∧ w'.cell? ⟨(ad486.add ((a2).toNat * 7)).block, (ad486.add ((a2).toNat * 7)).off + 6, none⟩ = some (.int .i64 ((rd_T48 t480 a2).f6)) ∧ w'.cell? (ad484.add ((a2).toNat * 2)) = some (.int .i64 ((rd_T46 l0_1 a2).f0)) ∧ w'.cell? ⟨(ad484.add ((a2).toNat * 2)).block, (ad484.add ((a2).toNat * 2)).off + 1, none⟩ = some (.int .i64 ((rd_T46 l0_1 a2).f1)) ∧ w'.cell? (ad485.add ((a2).toNat * 7)) = some (.int .i64 ((rd_T48 t476 a2).f0)) ∧ w'.cell? ⟨(ad485.add ((a2).toNat * 7)).block, (ad485.add ((a2).toNat * 7)).off + 1, none⟩ = some (.int .i64 ((rd_T48 t476 a2).f1)) ∧ w'.cell? ⟨(ad485.add ((a2).toNat * 7)).block, (ad485.add ((a2).toNat * 7)).off + 2, none⟩ = some (.int .i64 ((rd_T48 t476 a2).f2)) ∧ w'.cell? ⟨(ad485.add ((a2).toNat * 7)).block, (ad485.add ((a2).toNat * 7)).off + 3, none⟩ = some (.int .i64 ((rd_T48 t476 a2).f3)) ∧ w'.cell? ⟨(ad485.add ((a2).toNat * 7)).block, (ad485.add ((a2).toNat * 7)).off + 4, none⟩ = some (.int .i64 ((rd_T48 t476 a2).f4)) ∧ w'.cell? ⟨(ad485.add ((a2).toNat * 7)).block, (ad485.add ((a2).toNat * 7)).off + 5, none⟩ = some (.string ((rd_T48 t476 a2).f5)) ∧ w'.cell? ⟨(ad485.add ((a2).toNat * 7)).block, (ad485.add ((a2).toNat * 7)).off + 6, none⟩ = some (.int .i64 ((rd_T48 t476 a2).f6)) ∧ w'.cell? (ad486.add ((a2).toNat * 7)) = some (.int .i64 ((rd_T48 t480 a2).f0)) ∧ w'.cell? ⟨(ad486.add ((a2).toNat * 7)).block, (ad486.add ((a2).toNat * 7)).off + 1, none⟩ = some (.int .i64 ((rd_T48 t480 a2).f1)) ∧ w'.cell? ⟨(ad486.add ((a2).toNat * 7)).block, (ad486.add ((a2).toNat * 7)).off + 2, none⟩ = some (.int .i64 ((rd_T48 t480 a2).f2)) ∧ w'.cell? ⟨(ad486.add ((a2).toNat * 7)).block, (ad486.add ((a2).toNat * 7)).off + 3, none⟩ = some (.int .i64 ((rd_T48 t480 a2).f3)) ∧ w'.cell? ⟨(ad486.add ((a2).toNat * 7)).block, (ad486.add ((a2).toNat * 7)).off + 4, none⟩ = some (.int .i64 ((rd_T48 t480 a2).f4)) ∧ w'.cell? ⟨(ad486.add ((a2).toNat * 7)).block, (ad486.add ((a2).toNat * 7)).off + 5, none⟩ = some (.string ((rd_T48 t480 a2).f5)) ∧ w'.cell? ⟨(ad486.add ((a2).toNat * 7)).block, (ad486.add ((a2).toNat * 7)).off + 6, none⟩ = some (.int .i64 ((rd_T48 t480 a2).f6)) ∧ w'.cell? (ad485.add ((a2).toNat * 7)) = some (.int .i64 ((rd_T48 t476 a2).f0)) ∧ w'.cell? ⟨(ad485.add ((a2).toNat * 7)).block, (ad485.add ((a2).toNat * 7)).off + 1, none⟩ = some (.int .i64 ((rd_T48 t476 a2).f1)) ∧ w'.cell? ⟨(ad485.add ((a2).toNat * 7)).block, (ad485.add ((a2).toNat * 7)).off + 2, none⟩ = some (.int .i64 ((rd_T48 t476 a2).f2)) ∧ w'.cell? ⟨(ad485.add ((a2).toNat * 7)).block, (ad485.add ((a2).toNat * 7)).off + 3, none⟩ = some (.int .i64 ((rd_T48 t476 a2).f3)) ∧ w'.cell? ⟨(ad485.add ((a2).toNat * 7)).block, (ad485.add ((a2).toNat * 7)).off + 4, none⟩ = some (.int .i64 ((rd_T48 t476 a2).f4)) ∧ w'.cell? ⟨(ad485.add ((a2).toNat * 7)).block, (ad485.add ((a2).toNat * 7)).off + 5, none⟩ = some (.string ((rd_T48 t476 a2).f5)) ∧ w'.cell? ⟨(ad485.add ((a2).toNat * 7)).block, (ad485.add ((a2).toNat * 7)).off + 6, none⟩ = some (.int .i64 ((rd_T48 t476 a2).f6)) ∧ w'.cell? (ad485.add ((a2).toNat * 7)) = some (.int .i64 ((rd_T48 t476 a2).f0)) ∧ w'.cell? ⟨(ad485.add ((a2).toNat * 7)).block, (ad485.add ((a2).toNat * 7)).off + 1, none⟩ = some (.int .i64 ((rd_T48 t476 a2).f1)) ∧ w'.cell? ⟨(ad485.add ((a2).toNat * 7)).block, (ad485.add ((a2).toNat * 7)).off + 2, none⟩ = some (.int .i64 ((rd_T48 t476 a2).f2)) ∧ w'.cell? ⟨(ad485.add ((a2).toNat * 7)).block, (ad485.add ((a2).toNat * 7)).off + 3, none⟩ = some (.int .i64 ((rd_T48 t476 a2).f3)) ∧ w'.cell? ⟨(ad485.add ((a2).toNat * 7)).block, (ad485.add ((a2).toNat * 7)).off + 4, none⟩ = some (.int .i64 ((rd_T48 t476 a2).f4)) ∧ w'.cell? ⟨(ad485.add ((a2).toNat * 7)).block, (ad485.add ((a2).toNat * 7)).off + 5, none⟩ = some (.string ((rd_T48 t476 a2).f5)) ∧ w'.cell? ⟨(ad485.add ((a2).toNat * 7)).block, (ad485.add ((a2).toNat * 7)).off + 6, none⟩ = some (.int .i64 ((rd_T48 t476 a2).f6)) ∧ w'.cell? (ad484.add ((a2).toNat * 2)) = some (.int .i64 ((rd_T46 l0_1 a2).f0)) ∧ w'.cell? ⟨(ad484.add ((a2).toNat * 2)).block, (ad484.add ((a2).toNat * 2)).off + 1, none⟩ = some (.int .i64 ((rd_T46 l0_1 a2).f1))) (ds := []) (bsq 0 58) (by kernel_rfl) rfl rfl ⟨(blk_cell BK469.out 0).trans rfl, (blk_cell BK469.out 1).trans rfl, hx485_0, hx485_1, hx485_2, hx485_3, hx485_4, hx485_5, hx485_6, hx486_0, hx486_1, hx486_2, hx486_3, hx486_4, hx486_5, hx486_6, ((HB.out.cell (World.block_lt_of_cell? w _ hw487_0)).trans hw487_0), ((HB.out.cell (World.block_lt_of_cell? w _ hw487_1)).trans hw487_1), hx488_0, hx488_1, hx488_2, hx488_3, hx488_4, hx488_5, hx488_6, hx489_0, hx489_1, hx489_2, hx489_3, hx489_4, hx489_5, hx489_6, hx490_0, hx490_1, hx490_2, hx490_3, hx490_4, hx490_5, hx490_6, hx491_0, hx491_1, hx491_2, hx491_3, hx491_4, hx491_5, hx491_6, ((HB.out.cell (World.block_lt_of_cell? w _ hw492_0)).trans hw492_0), ((HB.out.cell (World.block_lt_of_cell? w _ hw492_1)).trans hw492_1)⟩ (fun hHeld => ?_); refine with_tabW signalbenchlaw14_FeedSelects.tab13 signalbenchlaw14_FeedSelects.bits13 (fun HT_ HW_ => ?_)
                     generalize wr.drew = w67 at HO_7 HO_9 BK469 HB hx485_0 hx485_1 hx485_2 hx485_3 hx485_4 hx485_5 hx485_6 hx486_0 hx486_1 hx486_2 hx486_3 hx486_4 hx486_5 hx486_6 hx487_0 hx487_1 hx488_0 hx488_1 hx488_2 hx488_3 hx488_4 hx488_5 hx488_6 hx489_0 hx489_1 hx489_2 hx489_3 hx489_4 hx489_5 hx489_6 hx490_0 hx490_1 hx490_2 hx490_3 hx490_4 hx490_5 hx490_6 hx491_0 hx491_1 hx491_2 hx491_3 hx491_4 hx491_5 hx491_6 hx492_0 hx492_1 hHeld ⊢
                     refine pu 0 102 (bsq 1 57) ?_
                     refine pu 1 103 (bsq 2 56) ?_
                     refine pu 2 104 (bsq 3 55) ?_
                     refine pu 3 105 (bsq 4 54) ?_
                     refine pu 5 107 (bls [4, 1, 1, 52]) ?_
                     refine tk 4 106 (bsq 6 52) hHeld ?_ (he := by rintro w' ⟨s0, s1, s2, s3, s4, s5, s6, s7, s8, s9, s10, s11, s12, s13, s14, s15, s16, s17, s18, s19, s20, s21, s22, s23, s24, s25, s26, s27, s28, s29, s30, s31, s32, s33, s34, s35, s36, s37, s38, s39, s40, s41, s42, s43, s44, s45, s46, s47⟩; go_simp; with_reducible rfl)
                     refine pu 6 108 (bsq 7 51) ?_
                     refine pu 7 109 (bsq 8 50) ?_
                     refine pu 8 110 (bsq 9 49) ?_
                     refine pu 9 111 (bsq 10 48) ?_
                     refine pu 10 112 (bsq 11 47) ?_
                     refine pu 11 113 (bsq 12 46) ?_
                     refine pu 13 115 (bls [12, 1, 1, 44]) ?_
                     refine pu 15 117 (bls [12, 1, 1, 1, 1, 42]) ?_
                     refine tk 12 114 (bls [14, 1, 1, 42]) hHeld ?_ (he := by rintro w' ⟨s0, s1, s2, s3, s4, s5, s6, s7, s8, s9, s10, s11, s12, s13, s14, s15, s16, s17, s18, s19, s20, s21, s22, s23, s24, s25, s26, s27, s28, s29, s30, s31, s32, s33, s34, s35, s36, s37, s38, s39, s40, s41, s42, s43, s44, s45, s46, s47⟩; go_simp; with_reducible rfl)
                     refine tk 14 116 (bsq 16 42) hHeld ?_ (he := by rintro w' ⟨s0, s1, s2, s3, s4, s5, s6, s7, s8, s9, s10, s11, s12, s13, s14, s15, s16, s17, s18, s19, s20, s21, s22, s23, s24, s25, s26, s27, s28, s29, s30, s31, s32, s33, s34, s35, s36, s37, s38, s39, s40, s41, s42, s43, s44, s45, s46, s47⟩; go_simp; with_reducible rfl)
                     refine pu 16 118 (bsq 17 41) ?_
                     refine pu 17 119 (bsq 18 40) ?_
                     refine tk 18 120 (bsq 19 39) hHeld ?_ (he := by rintro w' ⟨s0, s1, s2, s3, s4, s5, s6, s7, s8, s9, s10, s11, s12, s13, s14, s15, s16, s17, s18, s19, s20, s21, s22, s23, s24, s25, s26, s27, s28, s29, s30, s31, s32, s33, s34, s35, s36, s37, s38, s39, s40, s41, s42, s43, s44, s45, s46, s47⟩; go_simp; with_reducible rfl)
                     refine pu 19 121 (bsq 20 38) ?_
                     refine pu 20 122 (bsq 21 37) ?_
                     refine pu 21 123 (bsq 22 36) ?_
                     refine pu 22 124 (bsq 23 35) ?_
                     refine pu 23 125 (bsq 24 34) ?_
                     refine pu 24 126 (bsq 25 33) ?_
                     refine pu 25 127 (bsq 26 32) ?_
                     refine pu 27 129 (bls [26, 1, 1, 30]) ?_
                     refine pu 28 130 (bls [26, 1, 2, 29]) ?_
                     refine pu 29 131 (bls [26, 1, 3, 28]) ?_
                     refine pu 30 132 (bls [26, 1, 4, 27]) ?_
                     refine tk 26 128 (bsq 31 27) hHeld ?_ (he := by rintro w' ⟨s0, s1, s2, s3, s4, s5, s6, s7, s8, s9, s10, s11, s12, s13, s14, s15, s16, s17, s18, s19, s20, s21, s22, s23, s24, s25, s26, s27, s28, s29, s30, s31, s32, s33, s34, s35, s36, s37, s38, s39, s40, s41, s42, s43, s44, s45, s46, s47⟩; go_simp; with_reducible rfl)
                     refine tk 31 133 (bsq 32 26) hHeld ?_ (he := by rintro w' ⟨s0, s1, s2, s3, s4, s5, s6, s7, s8, s9, s10, s11, s12, s13, s14, s15, s16, s17, s18, s19, s20, s21, s22, s23, s24, s25, s26, s27, s28, s29, s30, s31, s32, s33, s34, s35, s36, s37, s38, s39, s40, s41, s42, s43, s44, s45, s46, s47⟩; go_simp; with_reducible rfl)
                     refine pu 32 134 (bsq 33 25) ?_
                     refine pu 33 135 (bsq 34 24) ?_
                     refine pu 34 136 (bsq 35 23) ?_
                     refine pu 35 137 (bsq 36 22) ?_
                     refine pu 36 138 (bsq 37 21) ?_
                     refine pu 37 139 (bsq 38 20) ?_
                     refine pu 38 140 (bsq 39 19) ?_
                     refine pu 40 142 (bls [39, 1, 1, 17]) ?_
                     refine pu 41 143 (bls [39, 1, 2, 16]) ?_
                     refine pu 42 144 (bls [39, 1, 3, 15]) ?_
                     refine pu 43 145 (bls [39, 1, 4, 14]) ?_
                     refine pu 46 148 (bls [39, 1, 4, 2, 1, 11]) ?_
                     refine pu 48 150 (bls [39, 1, 4, 2, 1, 1, 1, 9]) ?_
                     refine tk 39 141 (bls [44, 2, 1, 1, 1, 9]) hHeld ?_ (he := by rintro w' ⟨s0, s1, s2, s3, s4, s5, s6, s7, s8, s9, s10, s11, s12, s13, s14, s15, s16, s17, s18, s19, s20, s21, s22, s23, s24, s25, s26, s27, s28, s29, s30, s31, s32, s33, s34, s35, s36, s37, s38, s39, s40, s41, s42, s43, s44, s45, s46, s47⟩; go_simp; with_reducible rfl)
                     refine tk 44 146 (bls [45, 1, 1, 1, 1, 9]) hHeld ?_ (he := by rintro w' ⟨s0, s1, s2, s3, s4, s5, s6, s7, s8, s9, s10, s11, s12, s13, s14, s15, s16, s17, s18, s19, s20, s21, s22, s23, s24, s25, s26, s27, s28, s29, s30, s31, s32, s33, s34, s35, s36, s37, s38, s39, s40, s41, s42, s43, s44, s45, s46, s47⟩; go_simp; with_reducible rfl)
                     refine pu 45 147 (bls [47, 1, 1, 9]) ?_
                     refine tk 47 149 (bsq 49 9) hHeld ?_ (he := by rintro w' ⟨s0, s1, s2, s3, s4, s5, s6, s7, s8, s9, s10, s11, s12, s13, s14, s15, s16, s17, s18, s19, s20, s21, s22, s23, s24, s25, s26, s27, s28, s29, s30, s31, s32, s33, s34, s35, s36, s37, s38, s39, s40, s41, s42, s43, s44, s45, s46, s47⟩; go_simp; with_reducible rfl)
                     refine pu 49 151 (bsq 50 8) ?_
                     refine pu 50 152 (bsq 51 7) ?_
                     refine tk 51 153 (bsq 52 6) hHeld ?_ (he := by rintro w' ⟨s0, s1, s2, s3, s4, s5, s6, s7, s8, s9, s10, s11, s12, s13, s14, s15, s16, s17, s18, s19, s20, s21, s22, s23, s24, s25, s26, s27, s28, s29, s30, s31, s32, s33, s34, s35, s36, s37, s38, s39, s40, s41, s42, s43, s44, s45, s46, s47⟩; go_simp; with_reducible rfl)
                     refine pu 52 154 (bsq 53 5) ?_
                     refine pu 53 155 (bsq 54 4) ?_
                     refine pu 54 156 (bsq 55 3) ?_
                     refine un 55 157 (bsq 56 2) ?_
                     refine pu 56 158 (bsq 57 1) ?_
                     refine pu 57 6 (bsq 58 0) ?_
                     refine done_ (done_of HT_.out (by kernel_rfl)) ?_
                     try go_wp2
                     go_ret
                     exact ⟨by first | rfl | (simp [errW_none, errW_some] <;> rfl) | (simp [*, errW_none, errW_some] <;> rfl), bs HB.out⟩
                   ·
                    rw [if_neg c58] at H
                    have c58b0 : (((rd_T48 t476 a2).f1) == ((rd_T48 t480 a2).f1)) = false := beq_eq_false_iff_ne.mpr c58
                    have c58b1 : (((rd_T48 t476 a2).f1) != ((rd_T48 t480 a2).f1)) = true := bne_iff_ne.mpr c58
                    obtain rfl := Option.some.inj H
                    obtain ⟨hcz70_0, hcz70_1⟩ := bc2 BK469.out
                    obtain ⟨hfz70_0, hfz70_1⟩ := bf2 BK469.out
                    have p484 : 0 ≤ (a2 : Int) := of_decide_eq_true (by first | (with_reducible assumption) | assumption)
                    have q484 : a2 < (l0_1.length : Int) := of_decide_eq_true (by first | (with_reducible assumption) | assumption)
                    obtain ⟨ad484, e484, hx484_0, hx484_1⟩ := at_T46 HR0_1.out a2 p484 q484
                    cases e484
                    replace hx484_0 := pw_cell_below HB.out hx484_0
                    replace hx484_1 := pw_cell_below HB.out hx484_1
                    replace p484 := eq_true p484
                    replace q484 := eq_true q484
                    try go_wp2
                    have n0_ := Aside0.mk (Kd.R_drew HO_7.out)
                    have n1_ := Aside0.mk (Kd.R_drew HO_9.out)
                    have n2_ := Aside0.mk (blk_drew BK469.out)
                    have n3_ := Aside0.mk (below_drew1 HB.out)
                    clear HO_7
                    clear HO_9
                    clear BK469
                    clear HB
                    have HO_7 := n0_
                    have HO_9 := n1_
                    have BK469 := n2_
                    have HB := n3_
                    clear n0_ n1_ n2_ n3_
                    obtain ⟨Ao72, co72, eo72⟩ := Kd.R_slice HO_7.out
                    (first | subst eo72 | (injection eo72 with f1_ f2_ f3_; have f4_ := f1_.symm; have f5_ := f3_.symm; clear f1_ f2_ f3_; subst f4_; subst f5_))
                    have p485 : 0 ≤ (a2 : Int) := of_decide_eq_true (by first | (with_reducible assumption) | assumption)
                    have q485 : a2 < (t476.length : Int) := of_decide_eq_true (by first | (with_reducible assumption) | assumption)
                    obtain ⟨ad485, e485, hx485_0, hx485_1, hx485_2, hx485_3, hx485_4, hx485_5, hx485_6⟩ := at_T48 (Kd.R_reads' HO_7.out).2.2 a2 p485 q485
                    cases e485
                    replace p485 := eq_true p485
                    replace q485 := eq_true q485
                    obtain ⟨Ao73, co73, eo73⟩ := Kd.R_slice HO_9.out
                    (first | subst eo73 | (injection eo73 with f1_ f2_ f3_; have f4_ := f1_.symm; have f5_ := f3_.symm; clear f1_ f2_ f3_; subst f4_; subst f5_))
                    have p486 : 0 ≤ (a2 : Int) := of_decide_eq_true (by first | (with_reducible assumption) | assumption)
                    have q486 : a2 < (t480.length : Int) := of_decide_eq_true (by first | (with_reducible assumption) | assumption)
                    obtain ⟨ad486, e486, hx486_0, hx486_1, hx486_2, hx486_3, hx486_4, hx486_5, hx486_6⟩ := at_T48 (Kd.R_reads' HO_9.out).2.2 a2 p486 q486
                    cases e486
                    replace p486 := eq_true p486
                    replace q486 := eq_true q486
                    have p487 : 0 ≤ (a2 : Int) := of_decide_eq_true (by first | (with_reducible assumption) | assumption)
                    have q487 : a2 < (l0_1.length : Int) := of_decide_eq_true (by first | (with_reducible assumption) | assumption)
                    obtain ⟨ad487, e487, hx487_0, hx487_1⟩ := at_T46 HR0_1.out a2 p487 q487
                    have hw487_1 := hx487_1
                    have hw487_0 := hx487_0
                    obtain rfl : ad484 = ad487 := (by injection e487)
                    replace hx487_0 := pw_cell_below HB.out hx487_0
                    replace hx487_1 := pw_cell_below HB.out hx487_1
                    replace p487 := eq_true p487
                    replace q487 := eq_true q487
                    have p488 : 0 ≤ (a2 : Int) := of_decide_eq_true (by first | (with_reducible assumption) | assumption)
                    have q488 : a2 < (t476.length : Int) := of_decide_eq_true (by first | (with_reducible assumption) | assumption)
                    obtain ⟨ad488, e488, hx488_0, hx488_1, hx488_2, hx488_3, hx488_4, hx488_5, hx488_6⟩ := at_T48 (Kd.R_reads' HO_7.out).2.2 a2 p488 q488
                    obtain rfl : ad485 = ad488 := (by injection e488)
                    replace p488 := eq_true p488
                    replace q488 := eq_true q488
                    have p489 : 0 ≤ (a2 : Int) := of_decide_eq_true (by first | (with_reducible assumption) | assumption)
                    have q489 : a2 < (t480.length : Int) := of_decide_eq_true (by first | (with_reducible assumption) | assumption)
                    obtain ⟨ad489, e489, hx489_0, hx489_1, hx489_2, hx489_3, hx489_4, hx489_5, hx489_6⟩ := at_T48 (Kd.R_reads' HO_9.out).2.2 a2 p489 q489
                    obtain rfl : ad486 = ad489 := (by injection e489)
                    replace p489 := eq_true p489
                    replace q489 := eq_true q489
                    refine start_ (n := 58) (S := fun w' => w'.cell? ⟨gb469, 0, none⟩ = some (.slice (some ad472) l0_0.length c0_0) ∧ w'.cell? ⟨gb469, 1, none⟩ = some (.slice (some ad484) l0_1.length c0_1) ∧ w'.cell? (ad485.add ((a2).toNat * 7)) = some (.int .i64 ((rd_T48 t476 a2).f0)) ∧ w'.cell? ⟨(ad485.add ((a2).toNat * 7)).block, (ad485.add ((a2).toNat * 7)).off + 1, none⟩ = some (.int .i64 ((rd_T48 t476 a2).f1)) ∧ w'.cell? ⟨(ad485.add ((a2).toNat * 7)).block, (ad485.add ((a2).toNat * 7)).off + 2, none⟩ = some (.int .i64 ((rd_T48 t476 a2).f2)) ∧ w'.cell? ⟨(ad485.add ((a2).toNat * 7)).block, (ad485.add ((a2).toNat * 7)).off + 3, none⟩ = some (.int .i64 ((rd_T48 t476 a2).f3)) ∧ w'.cell? ⟨(ad485.add ((a2).toNat * 7)).block, (ad485.add ((a2).toNat * 7)).off + 4, none⟩ = some (.int .i64 ((rd_T48 t476 a2).f4)) ∧ w'.cell? ⟨(ad485.add ((a2).toNat * 7)).block, (ad485.add ((a2).toNat * 7)).off + 5, none⟩ = some (.string ((rd_T48 t476 a2).f5)) ∧ w'.cell? ⟨(ad485.add ((a2).toNat * 7)).block, (ad485.add ((a2).toNat * 7)).off + 6, none⟩ = some (.int .i64 ((rd_T48 t476 a2).f6)) ∧ w'.cell? (ad486.add ((a2).toNat * 7)) = some (.int .i64 ((rd_T48 t480 a2).f0)) ∧ w'.cell? ⟨(ad486.add ((a2).toNat * 7)).block, (ad486.add ((a2).toNat * 7)).off + 1, none⟩ = some (.int .i64 ((rd_T48 t480 a2).f1)) ∧ w'.cell? ⟨(ad486.add ((a2).toNat * 7)).block, (ad486.add ((a2).toNat * 7)).off + 2, none⟩ = some (.int .i64 ((rd_T48 t480 a2).f2)) ∧ w'.cell? ⟨(ad486.add ((a2).toNat * 7)).block, (ad486.add ((a2).toNat * 7)).off + 3, none⟩ = some (.int .i64 ((rd_T48 t480 a2).f3)) ∧ w'.cell? ⟨(ad486.add ((a2).toNat * 7)).block, (ad486.add ((a2).toNat * 7)).off + 4, none⟩ = some (.int .i64 ((rd_T48 t480 a2).f4)) ∧ w'.cell? ⟨(ad486.add ((a2).toNat * 7)).block, (ad486.add ((a2).toNat * 7)).off + 5, none⟩ = some (.string ((rd_T48 t480 a2).f5)) ∧ w'.cell? ⟨(ad486.add ((a2).toNat * 7)).block, (ad486.add ((a2).toNat * 7)).off + 6, none⟩ = some (.int .i64 ((rd_T48 t480 a2).f6)) ∧ w'.cell? (ad484.add ((a2).toNat * 2)) = some (.int .i64 ((rd_T46 l0_1 a2).f0)) ∧ w'.cell? ⟨(ad484.add ((a2).toNat * 2)).block, (ad484.add ((a2).toNat * 2)).off + 1, none⟩ = some (.int .i64 ((rd_T46 l0_1 a2).f1)) ∧ w'.cell? (ad485.add ((a2).toNat * 7)) = some (.int .i64 ((rd_T48 t476 a2).f0)) ∧ w'.cell? ⟨(ad485.add ((a2).toNat * 7)).block, (ad485.add ((a2).toNat * 7)).off + 1, none⟩ = some (.int .i64 ((rd_T48 t476 a2).f1)) ∧ w'.cell? ⟨(ad485.add ((a2).toNat * 7)).block, (ad485.add ((a2).toNat * 7)).off + 2, none⟩ = some (.int .i64 ((rd_T48 t476 a2).f2)) ∧ w'.cell? ⟨(ad485.add ((a2).toNat * 7)).block, (ad485.add ((a2).toNat * 7)).off + 3, none⟩ = some (.int .i64 ((rd_T48 t476 a2).f3)) ∧ w'.cell? ⟨(ad485.add ((a2).toNat * 7)).block, (ad485.add ((a2).toNat * 7)).off + 4, none⟩ = some (.int .i64 ((rd_T48 t476 a2).f4)) ∧ w'.cell? ⟨(ad485.add ((a2).toNat * 7)).block, (ad485.add ((a2).toNat * 7)).off + 5, none⟩ = some (.string ((rd_T48 t476 a2).f5)) ∧ w'.cell? ⟨(ad485.add ((a2).toNat * 7)).block, (ad485.add ((a2).toNat * 7)).off + 6, none⟩ = some (.int .i64 ((rd_T48 t476 a2).f6)) ∧ w'.cell? (ad486.add ((a2).toNat * 7)) = some (.int .i64 ((rd_T48 t480 a2).f0)) ∧ w'.cell? ⟨(ad486.add ((a2).toNat * 7)).block, (ad486.add ((a2).toNat * 7)).off + 1, none⟩ = some (.int .i64 ((rd_T48 t480 a2).f1)) ∧ w'.cell? ⟨(ad486.add ((a2).toNat * 7)).block, (ad486.add ((a2).toNat * 7)).off + 2, none⟩ = some (.int .i64 ((rd_T48 t480 a2).f2)) ∧ w'.cell? ⟨(ad486.add ((a2).toNat * 7)).block, (ad486.add ((a2).toNat * 7)).off + 3, none⟩ = some (.int .i64 ((rd_T48 t480 a2).f3)) ∧ w'.cell? ⟨(ad486.add ((a2).toNat * 7)).block, (ad486.add ((a2).toNat * 7)).off + 4, none⟩ = some (.int .i64 ((rd_T48 t480 a2).f4)) ∧ w'.cell? ⟨(ad486.add ((a2).toNat * 7)).block, (ad486.add ((a2).toNat * 7)).off + 5, none⟩ = some (.string ((rd_T48 t480 a2).f5)) ∧ w'.cell? ⟨(ad486.add ((a2).toNat * 7)).block, (ad486.add ((a2).toNat * 7)).off + 6, none⟩ = some (.int .i64 ((rd_T48 t480 a2).f6))) (ds := []) (bsq 0 58) (by kernel_rfl) rfl rfl ⟨(blk_cell BK469.out 0).trans rfl, (blk_cell BK469.out 1).trans rfl, hx485_0, hx485_1, hx485_2, hx485_3, hx485_4, hx485_5, hx485_6, hx486_0, hx486_1, hx486_2, hx486_3, hx486_4, hx486_5, hx486_6, ((HB.out.cell (World.block_lt_of_cell? w _ hw487_0)).trans hw487_0), ((HB.out.cell (World.block_lt_of_cell? w _ hw487_1)).trans hw487_1), hx488_0, hx488_1, hx488_2, hx488_3, hx488_4, hx488_5, hx488_6, hx489_0, hx489_1, hx489_2, hx489_3, hx489_4, hx489_5, hx489_6⟩ (fun hHeld => ?_); refine with_tabW signalbenchlaw14_FeedSelects.tab13 signalbenchlaw14_FeedSelects.bits13 (fun HT_ HW_ => ?_)
                    generalize wr.drew = w71 at HO_7 HO_9 BK469 HB hx485_0 hx485_1 hx485_2 hx485_3 hx485_4 hx485_5 hx485_6 hx486_0 hx486_1 hx486_2 hx486_3 hx486_4 hx486_5 hx486_6 hx487_0 hx487_1 hx488_0 hx488_1 hx488_2 hx488_3 hx488_4 hx488_5 hx488_6 hx489_0 hx489_1 hx489_2 hx489_3 hx489_4 hx489_5 hx489_6 hHeld ⊢
                    refine pu 0 102 (bsq 1 57) ?_
                    refine pu 1 103 (bsq 2 56) ?_
                    refine pu 2 104 (bsq 3 55) ?_
                    refine pu 3 105 (bsq 4 54) ?_
                    refine pu 5 107 (bls [4, 1, 1, 52]) ?_
                    refine tk 4 106 (bsq 6 52) hHeld ?_ (he := by rintro w' ⟨s0, s1, s2, s3, s4, s5, s6, s7, s8, s9, s10, s11, s12, s13, s14, s15, s16, s17, s18, s19, s20, s21, s22, s23, s24, s25, s26, s27, s28, s29, s30, s31⟩; go_simp; with_reducible rfl)
                    refine pu 6 108 (bsq 7 51) ?_
                    refine pu 7 109 (bsq 8 50) ?_
                    refine pu 8 110 (bsq 9 49) ?_
                    refine pu 9 111 (bsq 10 48) ?_
                    refine pu 10 112 (bsq 11 47) ?_
                    refine pu 11 113 (bsq 12 46) ?_
                    refine pu 13 115 (bls [12, 1, 1, 44]) ?_
                    refine pu 15 117 (bls [12, 1, 1, 1, 1, 42]) ?_
                    refine tk 12 114 (bls [14, 1, 1, 42]) hHeld ?_ (he := by rintro w' ⟨s0, s1, s2, s3, s4, s5, s6, s7, s8, s9, s10, s11, s12, s13, s14, s15, s16, s17, s18, s19, s20, s21, s22, s23, s24, s25, s26, s27, s28, s29, s30, s31⟩; go_simp; with_reducible rfl)
                    refine tk 14 116 (bsq 16 42) hHeld ?_ (he := by rintro w' ⟨s0, s1, s2, s3, s4, s5, s6, s7, s8, s9, s10, s11, s12, s13, s14, s15, s16, s17, s18, s19, s20, s21, s22, s23, s24, s25, s26, s27, s28, s29, s30, s31⟩; go_simp; with_reducible rfl)
                    refine pu 16 118 (bsq 17 41) ?_
                    refine pu 17 119 (bsq 18 40) ?_
                    refine tk 18 120 (bsq 19 39) hHeld ?_ (he := by rintro w' ⟨s0, s1, s2, s3, s4, s5, s6, s7, s8, s9, s10, s11, s12, s13, s14, s15, s16, s17, s18, s19, s20, s21, s22, s23, s24, s25, s26, s27, s28, s29, s30, s31⟩; go_simp; with_reducible rfl)
                    refine pu 19 121 (bsq 20 38) ?_
                    refine pu 20 122 (bsq 21 37) ?_
                    refine pu 21 123 (bsq 22 36) ?_
                    refine pu 22 124 (bsq 23 35) ?_
                    refine pu 23 125 (bsq 24 34) ?_
                    refine pu 24 126 (bsq 25 33) ?_
                    refine pu 25 127 (bsq 26 32) ?_
                    refine pu 27 129 (bls [26, 1, 1, 30]) ?_
                    refine pu 28 130 (bls [26, 1, 2, 29]) ?_
                    refine pu 29 131 (bls [26, 1, 3, 28]) ?_
                    refine pu 30 132 (bls [26, 1, 4, 27]) ?_
                    refine tk 26 128 (bsq 31 27) hHeld ?_ (he := by rintro w' ⟨s0, s1, s2, s3, s4, s5, s6, s7, s8, s9, s10, s11, s12, s13, s14, s15, s16, s17, s18, s19, s20, s21, s22, s23, s24, s25, s26, s27, s28, s29, s30, s31⟩; go_simp; with_reducible rfl)
                    refine tk 31 133 (bsq 32 26) hHeld ?_ (he := by rintro w' ⟨s0, s1, s2, s3, s4, s5, s6, s7, s8, s9, s10, s11, s12, s13, s14, s15, s16, s17, s18, s19, s20, s21, s22, s23, s24, s25, s26, s27, s28, s29, s30, s31⟩; go_simp; with_reducible rfl)
                    refine pu 32 134 (bsq 33 25) ?_
                    refine pu 33 135 (bsq 34 24) ?_
                    refine pu 34 136 (bsq 35 23) ?_
                    refine un 35 137 (bsq 36 22) ?_
                    refine un 36 138 (bsq 37 21) ?_
                    refine un 37 139 (bsq 38 20) ?_
                    refine un 38 140 (bsq 39 19) ?_
                    refine un 39 141 (bsq 40 18) ?_
                    refine un 40 142 (bsq 41 17) ?_
                    refine un 41 143 (bsq 42 16) ?_
                    refine un 42 144 (bsq 43 15) ?_
                    refine un 43 145 (bsq 44 14) ?_
                    refine un 44 146 (bsq 45 13) ?_
                    refine un 45 147 (bsq 46 12) ?_
                    refine un 46 148 (bsq 47 11) ?_
                    refine un 47 149 (bsq 48 10) ?_
                    refine un 48 150 (bsq 49 9) ?_
                    refine un 49 151 (bsq 50 8) ?_
                    refine un 50 152 (bsq 51 7) ?_
                    refine un 51 153 (bsq 52 6) ?_
                    refine un 52 154 (bsq 53 5) ?_
                    refine pu 53 155 (bsq 54 4) ?_
                    refine pu 54 156 (bsq 55 3) ?_
                    refine un 55 157 (bsq 56 2) ?_
                    refine pu 56 158 (bsq 57 1) ?_
                    refine pu 57 6 (bsq 58 0) ?_
                    refine done_ (done_of HT_.out (by kernel_rfl)) ?_
                    try go_wp2
                    go_ret
                    exact ⟨by first | rfl | (simp [errW_none, errW_some] <;> rfl) | (simp [*, errW_none, errW_some] <;> rfl), bs HB.out⟩
                  ·
                   rw [if_neg c57] at H
                   have c57b0 : (((rd_T48 t480 a2).f3) == ((rd_T46 l0_1 a2).f0)) = false := beq_eq_false_iff_ne.mpr c57
                   have c57b1 : (((rd_T48 t480 a2).f3) != ((rd_T46 l0_1 a2).f0)) = true := bne_iff_ne.mpr c57
                   obtain rfl := Option.some.inj H
                   obtain ⟨hcz74_0, hcz74_1⟩ := bc2 BK469.out
                   obtain ⟨hfz74_0, hfz74_1⟩ := bf2 BK469.out
                   have p484 : 0 ≤ (a2 : Int) := of_decide_eq_true (by first | (with_reducible assumption) | assumption)
                   have q484 : a2 < (l0_1.length : Int) := of_decide_eq_true (by first | (with_reducible assumption) | assumption)
                   obtain ⟨ad484, e484, hx484_0, hx484_1⟩ := at_T46 HR0_1.out a2 p484 q484
                   cases e484
                   replace hx484_0 := pw_cell_below HB.out hx484_0
                   replace hx484_1 := pw_cell_below HB.out hx484_1
                   replace p484 := eq_true p484
                   replace q484 := eq_true q484
                   try go_wp2
                   have n0_ := Aside0.mk (Kd.R_drew HO_7.out)
                   have n1_ := Aside0.mk (Kd.R_drew HO_9.out)
                   have n2_ := Aside0.mk (blk_drew BK469.out)
                   have n3_ := Aside0.mk (below_drew1 HB.out)
                   clear HO_7
                   clear HO_9
                   clear BK469
                   clear HB
                   have HO_7 := n0_
                   have HO_9 := n1_
                   have BK469 := n2_
                   have HB := n3_
                   clear n0_ n1_ n2_ n3_
                   obtain ⟨Ao76, co76, eo76⟩ := Kd.R_slice HO_7.out
                   (first | subst eo76 | (injection eo76 with f1_ f2_ f3_; have f4_ := f1_.symm; have f5_ := f3_.symm; clear f1_ f2_ f3_; subst f4_; subst f5_))
                   have p485 : 0 ≤ (a2 : Int) := of_decide_eq_true (by first | (with_reducible assumption) | assumption)
                   have q485 : a2 < (t476.length : Int) := of_decide_eq_true (by first | (with_reducible assumption) | assumption)
                   obtain ⟨ad485, e485, hx485_0, hx485_1, hx485_2, hx485_3, hx485_4, hx485_5, hx485_6⟩ := at_T48 (Kd.R_reads' HO_7.out).2.2 a2 p485 q485
                   cases e485
                   replace p485 := eq_true p485
                   replace q485 := eq_true q485
                   obtain ⟨Ao77, co77, eo77⟩ := Kd.R_slice HO_9.out
                   (first | subst eo77 | (injection eo77 with f1_ f2_ f3_; have f4_ := f1_.symm; have f5_ := f3_.symm; clear f1_ f2_ f3_; subst f4_; subst f5_))
                   have p486 : 0 ≤ (a2 : Int) := of_decide_eq_true (by first | (with_reducible assumption) | assumption)
                   have q486 : a2 < (t480.length : Int) := of_decide_eq_true (by first | (with_reducible assumption) | assumption)
                   obtain ⟨ad486, e486, hx486_0, hx486_1, hx486_2, hx486_3, hx486_4, hx486_5, hx486_6⟩ := at_T48 (Kd.R_reads' HO_9.out).2.2 a2 p486 q486
                   cases e486
                   replace p486 := eq_true p486
                   replace q486 := eq_true q486
                   have p487 : 0 ≤ (a2 : Int) := of_decide_eq_true (by first | (with_reducible assumption) | assumption)
                   have q487 : a2 < (l0_1.length : Int) := of_decide_eq_true (by first | (with_reducible assumption) | assumption)
                   obtain ⟨ad487, e487, hx487_0, hx487_1⟩ := at_T46 HR0_1.out a2 p487 q487
                   have hw487_1 := hx487_1
                   have hw487_0 := hx487_0
                   obtain rfl : ad484 = ad487 := (by injection e487)
                   replace hx487_0 := pw_cell_below HB.out hx487_0
                   replace hx487_1 := pw_cell_below HB.out hx487_1
                   replace p487 := eq_true p487
                   replace q487 := eq_true q487
                   refine start_ (n := 58) (S := fun w' => w'.cell? ⟨gb469, 0, none⟩ = some (.slice (some ad472) l0_0.length c0_0) ∧ w'.cell? ⟨gb469, 1, none⟩ = some (.slice (some ad484) l0_1.length c0_1) ∧ w'.cell? (ad485.add ((a2).toNat * 7)) = some (.int .i64 ((rd_T48 t476 a2).f0)) ∧ w'.cell? ⟨(ad485.add ((a2).toNat * 7)).block, (ad485.add ((a2).toNat * 7)).off + 1, none⟩ = some (.int .i64 ((rd_T48 t476 a2).f1)) ∧ w'.cell? ⟨(ad485.add ((a2).toNat * 7)).block, (ad485.add ((a2).toNat * 7)).off + 2, none⟩ = some (.int .i64 ((rd_T48 t476 a2).f2)) ∧ w'.cell? ⟨(ad485.add ((a2).toNat * 7)).block, (ad485.add ((a2).toNat * 7)).off + 3, none⟩ = some (.int .i64 ((rd_T48 t476 a2).f3)) ∧ w'.cell? ⟨(ad485.add ((a2).toNat * 7)).block, (ad485.add ((a2).toNat * 7)).off + 4, none⟩ = some (.int .i64 ((rd_T48 t476 a2).f4)) ∧ w'.cell? ⟨(ad485.add ((a2).toNat * 7)).block, (ad485.add ((a2).toNat * 7)).off + 5, none⟩ = some (.string ((rd_T48 t476 a2).f5)) ∧ w'.cell? ⟨(ad485.add ((a2).toNat * 7)).block, (ad485.add ((a2).toNat * 7)).off + 6, none⟩ = some (.int .i64 ((rd_T48 t476 a2).f6)) ∧ w'.cell? (ad486.add ((a2).toNat * 7)) = some (.int .i64 ((rd_T48 t480 a2).f0)) ∧ w'.cell? ⟨(ad486.add ((a2).toNat * 7)).block, (ad486.add ((a2).toNat * 7)).off + 1, none⟩ = some (.int .i64 ((rd_T48 t480 a2).f1)) ∧ w'.cell? ⟨(ad486.add ((a2).toNat * 7)).block, (ad486.add ((a2).toNat * 7)).off + 2, none⟩ = some (.int .i64 ((rd_T48 t480 a2).f2)) ∧ w'.cell? ⟨(ad486.add ((a2).toNat * 7)).block, (ad486.add ((a2).toNat * 7)).off + 3, none⟩ = some (.int .i64 ((rd_T48 t480 a2).f3)) ∧ w'.cell? ⟨(ad486.add ((a2).toNat * 7)).block, (ad486.add ((a2).toNat * 7)).off + 4, none⟩ = some (.int .i64 ((rd_T48 t480 a2).f4)) ∧ w'.cell? ⟨(ad486.add ((a2).toNat * 7)).block, (ad486.add ((a2).toNat * 7)).off + 5, none⟩ = some (.string ((rd_T48 t480 a2).f5)) ∧ w'.cell? ⟨(ad486.add ((a2).toNat * 7)).block, (ad486.add ((a2).toNat * 7)).off + 6, none⟩ = some (.int .i64 ((rd_T48 t480 a2).f6)) ∧ w'.cell? (ad484.add ((a2).toNat * 2)) = some (.int .i64 ((rd_T46 l0_1 a2).f0)) ∧ w'.cell? ⟨(ad484.add ((a2).toNat * 2)).block, (ad484.add ((a2).toNat * 2)).off + 1, none⟩ = some (.int .i64 ((rd_T46 l0_1 a2).f1))) (ds := []) (bsq 0 58) (by kernel_rfl) rfl rfl ⟨(blk_cell BK469.out 0).trans rfl, (blk_cell BK469.out 1).trans rfl, hx485_0, hx485_1, hx485_2, hx485_3, hx485_4, hx485_5, hx485_6, hx486_0, hx486_1, hx486_2, hx486_3, hx486_4, hx486_5, hx486_6, ((HB.out.cell (World.block_lt_of_cell? w _ hw487_0)).trans hw487_0), ((HB.out.cell (World.block_lt_of_cell? w _ hw487_1)).trans hw487_1)⟩ (fun hHeld => ?_); refine with_tabW signalbenchlaw14_FeedSelects.tab13 signalbenchlaw14_FeedSelects.bits13 (fun HT_ HW_ => ?_)
                   generalize wr.drew = w75 at HO_7 HO_9 BK469 HB hx485_0 hx485_1 hx485_2 hx485_3 hx485_4 hx485_5 hx485_6 hx486_0 hx486_1 hx486_2 hx486_3 hx486_4 hx486_5 hx486_6 hx487_0 hx487_1 hHeld ⊢
                   refine pu 0 102 (bsq 1 57) ?_
                   refine pu 1 103 (bsq 2 56) ?_
                   refine pu 2 104 (bsq 3 55) ?_
                   refine pu 3 105 (bsq 4 54) ?_
                   refine pu 5 107 (bls [4, 1, 1, 52]) ?_
                   refine tk 4 106 (bsq 6 52) hHeld ?_ (he := by rintro w' ⟨s0, s1, s2, s3, s4, s5, s6, s7, s8, s9, s10, s11, s12, s13, s14, s15, s16, s17⟩; go_simp; with_reducible rfl)
                   refine pu 6 108 (bsq 7 51) ?_
                   refine pu 7 109 (bsq 8 50) ?_
                   refine pu 8 110 (bsq 9 49) ?_
                   refine pu 9 111 (bsq 10 48) ?_
                   refine pu 10 112 (bsq 11 47) ?_
                   refine pu 11 113 (bsq 12 46) ?_
                   refine pu 13 115 (bls [12, 1, 1, 44]) ?_
                   refine pu 15 117 (bls [12, 1, 1, 1, 1, 42]) ?_
                   refine tk 12 114 (bls [14, 1, 1, 42]) hHeld ?_ (he := by rintro w' ⟨s0, s1, s2, s3, s4, s5, s6, s7, s8, s9, s10, s11, s12, s13, s14, s15, s16, s17⟩; go_simp; with_reducible rfl)
                   refine tk 14 116 (bsq 16 42) hHeld ?_ (he := by rintro w' ⟨s0, s1, s2, s3, s4, s5, s6, s7, s8, s9, s10, s11, s12, s13, s14, s15, s16, s17⟩; go_simp; with_reducible rfl)
                   refine pu 16 118 (bsq 17 41) ?_
                   refine pu 17 119 (bsq 18 40) ?_
                   refine tk 18 120 (bsq 19 39) hHeld ?_ (he := by rintro w' ⟨s0, s1, s2, s3, s4, s5, s6, s7, s8, s9, s10, s11, s12, s13, s14, s15, s16, s17⟩; go_simp; with_reducible rfl)
                   refine pu 19 121 (bsq 20 38) ?_
                   refine pu 20 122 (bsq 21 37) ?_
                   refine pu 21 123 (bsq 22 36) ?_
                   refine un 22 124 (bsq 23 35) ?_
                   refine un 23 125 (bsq 24 34) ?_
                   refine un 24 126 (bsq 25 33) ?_
                   refine un 25 127 (bsq 26 32) ?_
                   refine un 26 128 (bsq 27 31) ?_
                   refine un 27 129 (bsq 28 30) ?_
                   refine un 28 130 (bsq 29 29) ?_
                   refine un 29 131 (bsq 30 28) ?_
                   refine un 30 132 (bsq 31 27) ?_
                   refine un 31 133 (bsq 32 26) ?_
                   refine un 32 134 (bsq 33 25) ?_
                   refine pu 33 135 (bsq 34 24) ?_
                   refine pu 34 136 (bsq 35 23) ?_
                   refine un 35 137 (bsq 36 22) ?_
                   refine un 36 138 (bsq 37 21) ?_
                   refine un 37 139 (bsq 38 20) ?_
                   refine un 38 140 (bsq 39 19) ?_
                   refine un 39 141 (bsq 40 18) ?_
                   refine un 40 142 (bsq 41 17) ?_
                   refine un 41 143 (bsq 42 16) ?_
                   refine un 42 144 (bsq 43 15) ?_
                   refine un 43 145 (bsq 44 14) ?_
                   refine un 44 146 (bsq 45 13) ?_
                   refine un 45 147 (bsq 46 12) ?_
                   refine un 46 148 (bsq 47 11) ?_
                   refine un 47 149 (bsq 48 10) ?_
                   refine un 48 150 (bsq 49 9) ?_
                   refine un 49 151 (bsq 50 8) ?_
                   refine un 50 152 (bsq 51 7) ?_
                   refine un 51 153 (bsq 52 6) ?_
                   refine un 52 154 (bsq 53 5) ?_
                   refine pu 53 155 (bsq 54 4) ?_
                   refine pu 54 156 (bsq 55 3) ?_
                   refine un 55 157 (bsq 56 2) ?_
                   refine pu 56 158 (bsq 57 1) ?_
                   refine pu 57 6 (bsq 58 0) ?_
                   refine done_ (done_of HT_.out (by kernel_rfl)) ?_
                   try go_wp2
                   go_ret
                   exact ⟨by first | rfl | (simp [errW_none, errW_some] <;> rfl) | (simp [*, errW_none, errW_some] <;> rfl), bs HB.out⟩
                 ·
                  rw [if_neg c56] at H
                  exact absurd H (by simp)
                ·
                 rw [if_neg c55] at H
                 have c55b0 : (((rd_T48 t476 a2).f3) == (Int.tmod (wrap64 (Int.tdiv ((rd_T46 l0_1 a2).f0) x11_3)) 2)) = false := beq_eq_false_iff_ne.mpr c55
                 have c55b1 : (((rd_T48 t476 a2).f3) != (Int.tmod (wrap64 (Int.tdiv ((rd_T46 l0_1 a2).f0) x11_3)) 2)) = true := bne_iff_ne.mpr c55
                 obtain rfl := Option.some.inj H
                 obtain ⟨hcz78_0, hcz78_1⟩ := bc2 BK469.out
                 obtain ⟨hfz78_0, hfz78_1⟩ := bf2 BK469.out
                 have p484 : 0 ≤ (a2 : Int) := of_decide_eq_true (by first | (with_reducible assumption) | assumption)
                 have q484 : a2 < (l0_1.length : Int) := of_decide_eq_true (by first | (with_reducible assumption) | assumption)
                 obtain ⟨ad484, e484, hx484_0, hx484_1⟩ := at_T46 HR0_1.out a2 p484 q484
                 cases e484
                 replace hx484_0 := pw_cell_below HB.out hx484_0
                 replace hx484_1 := pw_cell_below HB.out hx484_1
                 replace p484 := eq_true p484
                 replace q484 := eq_true q484
                 try go_wp2
                 have n0_ := Aside0.mk (Kd.R_drew HO_7.out)
                 have n1_ := Aside0.mk (Kd.R_drew HO_9.out)
                 have n2_ := Aside0.mk (blk_drew BK469.out)
                 have n3_ := Aside0.mk (below_drew1 HB.out)
                 clear HO_7
                 clear HO_9
                 clear BK469
                 clear HB
                 have HO_7 := n0_
                 have HO_9 := n1_
                 have BK469 := n2_
                 have HB := n3_
                 clear n0_ n1_ n2_ n3_
                 obtain ⟨Ao80, co80, eo80⟩ := Kd.R_slice HO_7.out
                 (first | subst eo80 | (injection eo80 with f1_ f2_ f3_; have f4_ := f1_.symm; have f5_ := f3_.symm; clear f1_ f2_ f3_; subst f4_; subst f5_))
                 have p485 : 0 ≤ (a2 : Int) := of_decide_eq_true (by first | (with_reducible assumption) | assumption)
                 have q485 : a2 < (t476.length : Int) := of_decide_eq_true (by first | (with_reducible assumption) | assumption)
                 obtain ⟨ad485, e485, hx485_0, hx485_1, hx485_2, hx485_3, hx485_4, hx485_5, hx485_6⟩ := at_T48 (Kd.R_reads' HO_7.out).2.2 a2 p485 q485
                 cases e485
                 replace p485 := eq_true p485
                 replace q485 := eq_true q485
                 refine start_ (n := 58) (S := fun w' => w'.cell? (ad485.add ((a2).toNat * 7)) = some (.int .i64 ((rd_T48 t476 a2).f0)) ∧ w'.cell? ⟨(ad485.add ((a2).toNat * 7)).block, (ad485.add ((a2).toNat * 7)).off + 1, none⟩ = some (.int .i64 ((rd_T48 t476 a2).f1)) ∧ w'.cell? ⟨(ad485.add ((a2).toNat * 7)).block, (ad485.add ((a2).toNat * 7)).off + 2, none⟩ = some (.int .i64 ((rd_T48 t476 a2).f2)) ∧ w'.cell? ⟨(ad485.add ((a2).toNat * 7)).block, (ad485.add ((a2).toNat * 7)).off + 3, none⟩ = some (.int .i64 ((rd_T48 t476 a2).f3)) ∧ w'.cell? ⟨(ad485.add ((a2).toNat * 7)).block, (ad485.add ((a2).toNat * 7)).off + 4, none⟩ = some (.int .i64 ((rd_T48 t476 a2).f4)) ∧ w'.cell? ⟨(ad485.add ((a2).toNat * 7)).block, (ad485.add ((a2).toNat * 7)).off + 5, none⟩ = some (.string ((rd_T48 t476 a2).f5)) ∧ w'.cell? ⟨(ad485.add ((a2).toNat * 7)).block, (ad485.add ((a2).toNat * 7)).off + 6, none⟩ = some (.int .i64 ((rd_T48 t476 a2).f6))) (ds := []) (bsq 0 58) (by kernel_rfl) rfl rfl ⟨hx485_0, hx485_1, hx485_2, hx485_3, hx485_4, hx485_5, hx485_6⟩ (fun hHeld => ?_); refine with_tabW signalbenchlaw14_FeedSelects.tab13 signalbenchlaw14_FeedSelects.bits13 (fun HT_ HW_ => ?_)
                 generalize wr.drew = w79 at HO_7 HO_9 BK469 HB hx485_0 hx485_1 hx485_2 hx485_3 hx485_4 hx485_5 hx485_6 hHeld ⊢
                 refine pu 0 102 (bsq 1 57) ?_
                 refine pu 1 103 (bsq 2 56) ?_
                 refine pu 2 104 (bsq 3 55) ?_
                 refine pu 3 105 (bsq 4 54) ?_
                 refine pu 5 107 (bls [4, 1, 1, 52]) ?_
                 refine tk 4 106 (bsq 6 52) hHeld ?_ (he := by rintro w' ⟨s0, s1, s2, s3, s4, s5, s6⟩; go_simp; with_reducible rfl)
                 refine pu 6 108 (bsq 7 51) ?_
                 refine pu 7 109 (bsq 8 50) ?_
                 refine un 8 110 (bsq 9 49) ?_
                 refine un 9 111 (bsq 10 48) ?_
                 refine un 10 112 (bsq 11 47) ?_
                 refine un 11 113 (bsq 12 46) ?_
                 refine un 12 114 (bsq 13 45) ?_
                 refine un 13 115 (bsq 14 44) ?_
                 refine un 14 116 (bsq 15 43) ?_
                 refine un 15 117 (bsq 16 42) ?_
                 refine un 16 118 (bsq 17 41) ?_
                 refine un 17 119 (bsq 18 40) ?_
                 refine un 18 120 (bsq 19 39) ?_
                 refine un 19 121 (bsq 20 38) ?_
                 refine pu 20 122 (bsq 21 37) ?_
                 refine pu 21 123 (bsq 22 36) ?_
                 refine un 22 124 (bsq 23 35) ?_
                 refine un 23 125 (bsq 24 34) ?_
                 refine un 24 126 (bsq 25 33) ?_
                 refine un 25 127 (bsq 26 32) ?_
                 refine un 26 128 (bsq 27 31) ?_
                 refine un 27 129 (bsq 28 30) ?_
                 refine un 28 130 (bsq 29 29) ?_
                 refine un 29 131 (bsq 30 28) ?_
                 refine un 30 132 (bsq 31 27) ?_
                 refine un 31 133 (bsq 32 26) ?_
                 refine un 32 134 (bsq 33 25) ?_
                 refine pu 33 135 (bsq 34 24) ?_
                 refine pu 34 136 (bsq 35 23) ?_
                 refine un 35 137 (bsq 36 22) ?_
                 refine un 36 138 (bsq 37 21) ?_
                 refine un 37 139 (bsq 38 20) ?_
                 refine un 38 140 (bsq 39 19) ?_
                 refine un 39 141 (bsq 40 18) ?_
                 refine un 40 142 (bsq 41 17) ?_
                 refine un 41 143 (bsq 42 16) ?_
                 refine un 42 144 (bsq 43 15) ?_
                 refine un 43 145 (bsq 44 14) ?_
                 refine un 44 146 (bsq 45 13) ?_
                 refine un 45 147 (bsq 46 12) ?_
                 refine un 46 148 (bsq 47 11) ?_
                 refine un 47 149 (bsq 48 10) ?_
                 refine un 48 150 (bsq 49 9) ?_
                 refine un 49 151 (bsq 50 8) ?_
                 refine un 50 152 (bsq 51 7) ?_
                 refine un 51 153 (bsq 52 6) ?_
                 refine un 52 154 (bsq 53 5) ?_
                 refine pu 53 155 (bsq 54 4) ?_
                 refine pu 54 156 (bsq 55 3) ?_
                 refine un 55 157 (bsq 56 2) ?_
                 refine pu 56 158 (bsq 57 1) ?_
                 refine pu 57 6 (bsq 58 0) ?_
                 refine done_ (done_of HT_.out (by kernel_rfl)) ?_
                 try go_wp2
                 go_ret
                 exact ⟨by first | rfl | (simp [errW_none, errW_some] <;> rfl) | (simp [*, errW_none, errW_some] <;> rfl), bs HB.out⟩
               ·
                rw [if_neg c54] at H
                exact absurd H (by simp)
             ·
              rw [if_neg c52] at H
              exact absurd H (by simp)
            ·
             rw [if_neg c51] at H
             exact absurd H (by simp)
     ·
      rw [if_neg c30] at H
      exact absurd H (by simp)
    ·
     rw [if_neg c29] at H
     exact absurd H (by simp)

end Go.Proofs.Ytioedeglgljblaa.H
