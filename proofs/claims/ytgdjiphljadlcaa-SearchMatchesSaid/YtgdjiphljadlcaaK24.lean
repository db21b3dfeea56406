-- Printed by wip/hprint.py (this project's own driver of the kit's print) out of the translation; Lean checks it.
import Derived.Test.YtgdjiphljadlcaaK0
import Derived.Test.YtgdjiphljadlcaaK18
import Derived.Test.YtgdjiphljadlcaaK22
import Derived.Test.YtgdjiphljadlcaaK23
namespace Go.Proofs.Ytgdjiphljadlcaa.K
open Go.RowKit Go.Proofs.YtgdjiphljadlcaaW.PrintWords Go.Proofs.YtgdjiphljadlcaaW.PrintLast Go.Proofs.YtgdjiphljadlcaaW.PrintMore
attribute [local go_sem] max2_int min2_int max_two min_two max_three min_three max_four min_four   -- for this text's walks alone
set_option linter.unusedVariables false
set_option linter.unusedSimpArgs false

/-! ### signalbenchref47_Matches: function 28 -/
mutual
def signalbenchref47_Matches.j0 : Nat → List (S46) → List Int → Bool → List (S50) → Option (Bool)
 | 0, _, _, _, _ => none
 | k + 1, x1, x2, x19, x357000 => if x19 = true then (some false) else (signalbenchref47_Matches.l0 k x1 x2 0 x357000)
def signalbenchref47_Matches.l0 : Nat → List (S46) → List Int → Int → List (S50) → Option (Bool)
 | 0, _, _, _, _ => none
 | k + 1, x1, x2, x7, x357000 => if x7 < (x2.length : Int) then (if 0 ≤ x7 then (if (rd x2 x7) < 0 then (signalbenchref47_Matches.j2 k x1 x2 x7 (rd x2 x7) true x357000) else (if (rd x2 x7) ≥ (x1.length : Int) then (signalbenchref47_Matches.j2 k x1 x2 x7 (rd x2 x7) true x357000) else (if x7 > 0 then (if 0 ≤ (wrap64 (x7 - 1)) then (if (wrap64 (x7 - 1)) < (x2.length : Int) then (if (rd x2 (wrap64 (x7 - 1))) ≥ (rd x2 x7) then (signalbenchref47_Matches.j2 k x1 x2 x7 (rd x2 x7) true x357000) else (if x7 < (x357000.length : Int) then (if 0 ≤ (rd x2 x7) then (if (rd x2 x7) < (x1.length : Int) then ((signalbenchref47_satisfies.f k ((rd_T50 x357000 x7).f0.f0) ((rd_T50 x357000 x7).f0.f1) ((rd_T50 x357000 x7).f0.f2) ((rd_T50 x357000 x7).f0.f3) ((rd_T50 x357000 x7).f0.f4) ((rd_T46 x1 (rd x2 x7)).f0) ((rd_T46 x1 (rd x2 x7)).f1) ((rd_T46 x1 (rd x2 x7)).f2.f0) ((rd_T46 x1 (rd x2 x7)).f2.f1) ((rd_T46 x1 (rd x2 x7)).f2.f2) ((rd_T46 x1 (rd x2 x7)).f2.f3) ((rd_T46 x1 (rd x2 x7)).f2.f4) ((rd_T46 x1 (rd x2 x7)).f2.f5) ((rd_T46 x1 (rd x2 x7)).f2.f6)).bind fun t362 => (signalbenchref47_Matches.j2 k x1 x2 x7 (rd x2 x7) (!t362) x357000)) else (none)) else (none)) else (none))) else (none)) else (none)) else (if x7 < (x357000.length : Int) then (if 0 ≤ (rd x2 x7) then (if (rd x2 x7) < (x1.length : Int) then ((signalbenchref47_satisfies.f k ((rd_T50 x357000 x7).f0.f0) ((rd_T50 x357000 x7).f0.f1) ((rd_T50 x357000 x7).f0.f2) ((rd_T50 x357000 x7).f0.f3) ((rd_T50 x357000 x7).f0.f4) ((rd_T46 x1 (rd x2 x7)).f0) ((rd_T46 x1 (rd x2 x7)).f1) ((rd_T46 x1 (rd x2 x7)).f2.f0) ((rd_T46 x1 (rd x2 x7)).f2.f1) ((rd_T46 x1 (rd x2 x7)).f2.f2) ((rd_T46 x1 (rd x2 x7)).f2.f3) ((rd_T46 x1 (rd x2 x7)).f2.f4) ((rd_T46 x1 (rd x2 x7)).f2.f5) ((rd_T46 x1 (rd x2 x7)).f2.f6)).bind fun t365 => (signalbenchref47_Matches.j2 k x1 x2 x7 (rd x2 x7) (!t365) x357000)) else (none)) else (none)) else (none))))) else (none)) else (some true)
def signalbenchref47_Matches.j2 : Nat → List (S46) → List Int → Int → Int → Bool → List (S50) → Option (Bool)
 | 0, _, _, _, _, _, _ => none
 | k + 1, x1, x2, x7, x8, x64, x357000 => if x64 = true then (some false) else (if x7 > 0 then (if 0 ≤ (wrap64 (x7 - 1)) then (if (wrap64 (x7 - 1)) < (x2.length : Int) then ((signalbenchref47_follows.f k x357000 x1 x7 (rd x2 (wrap64 (x7 - 1))) x8).bind fun t367 => (if t367 = true then (signalbenchref47_Matches.l0 k x1 x2 (wrap64 (x7 + 1)) x357000) else (some false))) else (none)) else (none)) else (signalbenchref47_Matches.l0 k x1 x2 (wrap64 (x7 + 1)) x357000))
end
def signalbenchref47_Matches.f (k : Nat) (l0_0 : List (S50)) (l1 : List (S46)) (l2 : List Int) : Option (Bool) := (signalbenchref44_Check.f k l0_0).bind fun t357 => (if t357 = 0 then (signalbenchref47_Matches.j0 k l1 l2 ((l2.length : Int) != (l0_0.length : Int)) l0_0) else (signalbenchref47_Matches.j0 k l1 l2 true l0_0))
def signalbenchref47_Matches.T7 : Bool × List (List Nat × List Nat) := (true, [([], []), ([0], [0]), ([1], [1]), ([2], [2]), ([2], [2]), ([4, 2], [2, 4]), ([3, 5, 2], [2, 3, 5]), ([2, 6], [2, 6]), ([7, 2], [7]), ([8], [8]), ([9, 8], [8, 9]), ([10, 8, 8], [8, 10]), ([11], [11]), ([11], [11]), ([13, 11], [11, 13]), ([12, 14, 11], [11, 12, 14]), ([15, 11], [11, 15]), ([11], [11]), ([16, 17, 11], [11, 16, 17]), ([11, 18, 8], [8, 11, 18]), ([8, 19], [8, 19]), ([20, 11], [20]), ([21], [21]), ([22, 21], [21, 22]), ([21], [21]), ([23, 24, 21], [21, 23, 24]), ([25, 21], [21, 25]), ([26, 21], [21, 26]), ([21], [21]), ([21], [21]), ([28, 29, 21], [21, 28, 29]), ([30, 21], [21, 30]), ([27, 31, 21, 21], [21, 27, 31]), ([32, 21], [21, 32]), ([21, 33], [21, 33])])
def signalbenchref47_Matches.B7 : List Nat := [0, 1, 3, 7, 7, 23, 63, 127, 255, 511, 1023, 2047, 4095, 4095, 12287, 32767, 65535, 4095, 262143, 524287, 1048575, 2097151, 4194303, 8388607, 4194303, 33554431, 67108863, 134217727, 4194303, 4194303, 809500671, 1883242495, 4294967295, 8589934591, 17179869183]
theorem signalbenchref47_Matches.tab7 : rtab .any (opsOf Try.f28 7) = signalbenchref47_Matches.T7 := by kernel_rfl
theorem signalbenchref47_Matches.bits7 : waitsOk signalbenchref47_Matches.T7.2 signalbenchref47_Matches.B7 = true := by kernel_rfl
def signalbenchref47_Matches.T9 : Bool × List (List Nat × List Nat) := (true, [([], []), ([0], [0]), ([1], [1]), ([2], [2]), ([2], [2]), ([2], [2]), ([2], [2]), ([2], [2]), ([7, 2], [2, 7]), ([6, 8, 2], [2, 6, 8]), ([9, 2], [2, 9]), ([2], [2]), ([3, 4, 5, 10, 11, 2, 2], [2, 3, 4, 5, 10, 11]), ([12, 2], [2, 12]), ([2, 13], [2, 13])])
def signalbenchref47_Matches.B9 : List Nat := [0, 1, 3, 7, 7, 7, 7, 7, 135, 455, 967, 7, 4095, 8191, 16383]
theorem signalbenchref47_Matches.tab9 : rtab .any (opsOf Try.f28 9) = signalbenchref47_Matches.T9 := by kernel_rfl
theorem signalbenchref47_Matches.bits9 : waitsOk signalbenchref47_Matches.T9.2 signalbenchref47_Matches.B9 = true := by kernel_rfl
set_option maxHeartbeats 8000000 in
set_option maxRecDepth 100000 in
theorem signalbenchref47_Matches.calls (k : Nat) (A0_0 : Option Addr) (c0_0 : Nat) (l0_0 : List (S50)) (A1 : Option Addr) (c1 : Nat) (l1 : List (S46)) (A2 : Option Addr) (c2 : Nat) (l2 : List Int) (r : Bool) (w : World) (hr0_0 : Kd.C k50 w A0_0 l0_0.length l0_0) (hc0_0 : l0_0.length ≤ c0_0) (hr1 : Kd.C k46 w A1 l1.length l1) (hc1 : l1.length ≤ c1) (hr2 : Kd.C (Kd.int .i64) w A2 l2.length l2) (hc2 : l2.length ≤ c2) (h : signalbenchref47_Matches.f k l0_0 l1 l2 = some r) :
  Calls Try.prog 28 #[.agg #[.slice A0_0 l0_0.length c0_0], .slice A1 l1.length c1, .slice A2 l2.length c2] w fun e w' => e = .returned (.bool r) ∧ Below w.heap.size w w' := by
 have hu31 := Try.underlying31
 have hu42 := Try.underlying42
 have hu46 := Try.underlying46
 have HR0_0 := Aside0.mk hr0_0
 have HC0_0 := Aside0.mk hc0_0
 clear hr0_0 hc0_0
 have HR1 := Aside0.mk hr1
 have HC1 := Aside0.mk hc1
 clear hr1 hc1
 have HR2 := Aside0.mk hr2
 have HC2 := Aside0.mk hc2
 clear hr2 hc2
 have HB := Aside0.mk (Below.refl w.heap.size w)
 have H : ((signalbenchref44_Check.f k l0_0).bind fun t357 => (if t357 = 0 then (signalbenchref47_Matches.j0 k l1 l2 ((l2.length : Int) != (l0_0.length : Int)) l0_0) else (signalbenchref47_Matches.j0 k l1 l2 true l0_0))) = some r := h
 clear h
 have HC4 := Aside0.mk H
 clear H
 go_enter Try.func28, Try.ntmps28
 go_upto_region 1 with (first | ((with_reducible refine gate_dst (N := 3) rfl ?_); (try (refine gate_guard (by rfl) ?_; dsimp only)); refine box_event ?hg (N := 3) ?hd (cs := #[.slice A0_0 l0_0.length c0_0]) (t := 31) ?hr ?_; (case hd => rfl); (case hg => rfl); (case hr => first | (go_simp; done) | (go_simp; rfl)); intro gb356 hg w5 hbox hb; have n0_ := Aside0.mk (below_step (bs HB.out) hb); have n1_ := Aside0.mk (hbox); have n2_ := Aside0.mk ((by rw [hg]; exact (below_size (bs HB.out)) : w.heap.size ≤ gb356)); have n3_ := n2_; clear HB; have HB := n0_; have BK356 := n1_; have GW356 := n2_; have GE356 := n3_; clear n0_ n1_ n2_ n3_; clear hb hbox hg))
 (try simp only [Act.put, List.setIfInBounds_toArray, List.set_cons_zero, List.set_cons_succ])
 go_cut [19] (fun v19 wc => ∃ (kq : Nat) (x19_3 : Bool), v19 = .bool x19_3 ∧ Aside0 (signalbenchref47_Matches.j0 kq l1 l2 x19_3 l0_0 = some r) ∧ Aside0 (kq ≤ k) ∧ Aside0 (wc.heap[gb356]? = some (.cells #[(.slice A0_0 l0_0.length c0_0)] 31 (0, 0))) ∧ Aside0 (Below w.heap.size w wc))
 case first =>
  have H := HC4.out
  clear HC4
  replace H := Option.bind_eq_some_iff.mp H
  obtain ⟨t357, A60, H⟩ := H
  replace H : (if t357 = 0 then (signalbenchref47_Matches.j0 k l1 l2 ((l2.length : Int) != (l0_0.length : Int)) l0_0) else (signalbenchref47_Matches.j0 k l1 l2 true l0_0)) = some r := H
  have A6 := Aside0.mk A60
  clear A60
  by_cases c7 : t357 = 0
  ·
   rw [if_pos c7] at H
   have c7b0 : (t357 == 0) = true := beq_iff_eq.mpr c7
   have c7b1 : (t357 != 0) = false := bne_eq_false_iff_eq.mpr c7
   clear c7
   (first | rw [c7b0] | (simp only [i64_w, i32_w]; rw [c7b0]) | skip)
   have H' := Aside0.mk H
   clear H
   have hcz8_0 : w5.cell? ⟨gb356, 0, none⟩ = some (.slice A0_0 l0_0.length c0_0) := (blk_cell BK356.out 0).trans rfl
   have hfz8_0 := blk_frozen BK356.out 0
   go_wp2_with (first | ((with_reducible refine gate_callee (f := 21) rfl ?_); refine goesL_ (some 10) rfl rfl Try.func21 (by kernel_rfl) rfl #[.agg #[.slice A0_0 l0_0.length c0_0]] rfl (by (try simp only [List.map_toArray, List.map_cons, List.map_nil]); first | done | rfl | (simp only [List.length_drop, List.length_take]; rfl)) ?_; (with_reducible refine (signalbenchref44_Check.calls k _ _ l0_0 t357 _ ?side1 ?side2 A6.out).mono ?_); (case side1 => repeat (first | exact (Kd.C_below HR0_0.out HB.out) | (with_reducible refine Kd.C_alloc ?_ _) | (with_reducible refine Kd.C_drewN ?_ _) | (with_reducible refine Kd.C_drew ?_))); (case side2 => exact HC0_0.out); rintro e w9 ⟨rfl, hb⟩; refine ⟨_, rfl, ?_⟩; have n0_ := Aside0.mk (blk_below (bg BK356.out) hb); have n1_ := Aside0.mk (below_step (bs HB.out) hb); clear BK356; clear HB; have BK356 := n0_; have HB := n1_; clear n0_ n1_; (try clear hb); (try clear hb2); (try clear hk); (try clear hi); have hcz10_0 : w9.cell? ⟨gb356, 0, none⟩ = some (.slice A0_0 l0_0.length c0_0) := (blk_cell BK356.out 0).trans rfl; have hfz10_0 := blk_frozen BK356.out 0))
   go_meet
   case rel => exact ⟨_, (((l2.length : Int) != (l0_0.length : Int))), (by first | rfl | (simp; done) | (simp [*]; done)), H', ⟨by first | omega | exact Nat.le_refl _⟩, ⟨bg BK356.out⟩, ⟨bs HB.out⟩⟩
  ·
   rw [if_neg c7] at H
   have c7b0 : (t357 == 0) = false := beq_eq_false_iff_ne.mpr c7
   have c7b1 : (t357 != 0) = true := bne_iff_ne.mpr c7
   (first | rw [c7b0] | (simp only [i64_w, i32_w]; rw [c7b0]) | skip)
   have H' := Aside0.mk H
   clear H
   have hcz11_0 : w5.cell? ⟨gb356, 0, none⟩ = some (.slice A0_0 l0_0.length c0_0) := (blk_cell BK356.out 0).trans rfl
   have hfz11_0 := blk_frozen BK356.out 0
   go_wp2_with (first | ((with_reducible refine gate_callee (f := 21) rfl ?_); refine goesL_ (some 10) rfl rfl Try.func21 (by kernel_rfl) rfl #[.agg #[.slice A0_0 l0_0.length c0_0]] rfl (by (try simp only [List.map_toArray, List.map_cons, List.map_nil]); first | done | rfl | (simp only [List.length_drop, List.length_take]; rfl)) ?_; (with_reducible refine (signalbenchref44_Check.calls k _ _ l0_0 t357 _ ?side1 ?side2 A6.out).mono ?_); (case side1 => repeat (first | exact (Kd.C_below HR0_0.out HB.out) | (with_reducible refine Kd.C_alloc ?_ _) | (with_reducible refine Kd.C_drewN ?_ _) | (with_reducible refine Kd.C_drew ?_))); (case side2 => exact HC0_0.out); rintro e w12 ⟨rfl, hb⟩; refine ⟨_, rfl, ?_⟩; have n0_ := Aside0.mk (blk_below (bg BK356.out) hb); have n1_ := Aside0.mk (below_step (bs HB.out) hb); clear BK356; clear HB; have BK356 := n0_; have HB := n1_; clear n0_ n1_; (try clear hb); (try clear hb2); (try clear hk); (try clear hi)))
   go_meet
   case rel => exact ⟨_, (true), (by first | rfl | (simp; done) | (simp [*]; done)), H', ⟨by first | omega | exact Nat.le_refl _⟩, ⟨bg BK356.out⟩, ⟨bs HB.out⟩⟩
 case rest =>
  clear HC4
  try clear c1
  try clear c2
  try clear p2
  try clear c7
  try clear c7b0
  try clear c7b1
  try clear hcz10_0
  try clear hcz11_0
  try clear hcz8_0
  try clear hfz10_0
  try clear hfz11_0
  try clear hfz8_0
  obtain ⟨kq, x19_3, rfl, HA, HJ3, BK356, HB⟩ := hcut
  cases kq with
  | zero => exact absurd HA.out (by simp [signalbenchref47_Matches.j0])
  | succ kj3 =>
   have H := HA.out
   clear HA
   simp only [signalbenchref47_Matches.j0] at H
   by_cases c13 : x19_3 = true
   ·
    subst c13
    have H1 : (some false) = some r := by rw [if_pos rfl] at H; exact H
    clear H
    have H := H1
    clear H1
    obtain rfl := Option.some.inj H
    go_wp2
    go_ret
    exact ⟨by first | rfl | (simp [errW_none, errW_some] <;> rfl) | (simp [*, errW_none, errW_some] <;> rfl), bs HB.out⟩
   ·
    replace c13 := Bool.eq_false_iff.mpr c13
    subst c13
    have H1 : (signalbenchref47_Matches.l0 kj3 l1 l2 0 l0_0) = some r := by rw [if_neg (show ¬ (false = true) by decide)] at H; exact H
    clear H
    have H := H1
    clear H1
    have H' := Aside0.mk H
    clear H
    go_wp2
    go_loopg [7] kj3 (fun kq v7 w' => ∃ (x7_2 : Int), v7 = .int .i64 x7_2 ∧ Aside0 (signalbenchref47_Matches.l0 kq l1 l2 x7_2 l0_0 = some r) ∧ Aside0 (kq ≤ kj3) ∧ Aside0 (w'.heap[gb356]? = some (.cells #[(.slice A0_0 l0_0.length c0_0)] 31 (0, 0))) ∧ Aside0 (Below w.heap.size w w'))
    case atStart => exact ⟨(0), (by first | rfl | (simp; done) | (simp [*]; done)), H', ⟨Nat.le_refl _⟩, ⟨bg BK356.out⟩, ⟨bs HB.out⟩⟩
    case round =>
     clear H'
     try clear c1
     try clear c2
     try clear p2
     try clear c7
     try clear c7b0
     try clear c7b1
     try clear c13
     try clear hcz10_0
     try clear hcz11_0
     try clear hcz8_0
     try clear hfz10_0
     try clear hfz11_0
     try clear hfz8_0
     try clear p2
     obtain ⟨x7_2, rfl, HA, HK2, BK356, HB⟩ := hrel
     cases gk with
     | zero => exact absurd HA.out (by simp [signalbenchref47_Matches.l0])
     | succ k2 =>
      have H := HA.out
      clear HA
      simp only [signalbenchref47_Matches.l0] at H
      by_cases c14 : x7_2 < (l2.length : Int)
      ·
       rw [if_pos c14] at H
       have c14b0 : decide (x7_2 < (l2.length : Int)) = true := decide_eq_true c14
       clear c14
       by_cases c15 : 0 ≤ x7_2
       ·
        rw [if_pos c15] at H
        have c15b0 : decide (0 ≤ x7_2) = true := decide_eq_true c15
        clear c15
        have HC16 := Aside0.mk H
        clear H
        have p358 : 0 ≤ (x7_2 : Int) := of_decide_eq_true (by first | (with_reducible assumption) | assumption)
        have q358 : x7_2 < (l2.length : Int) := of_decide_eq_true (by first | (with_reducible assumption) | assumption)
        obtain ⟨ad358, e358, hx358_0⟩ := Kd.at_int HR2.out x7_2 p358 q358
        cases e358
        replace hx358_0 := pw_cell_below HB.out hx358_0
        replace p358 := eq_true p358
        replace q358 := eq_true q358
        go_upto_region 7 with (fail)
        go_cut [64] (fun v64 wc => ∃ (kq : Nat) (x64_15 : Bool), v64 = .bool x64_15 ∧ Aside0 (signalbenchref47_Matches.j2 kq l1 l2 x7_2 (rd l2 x7_2) x64_15 l0_0 = some r) ∧ Aside0 (kq ≤ k2) ∧ Aside0 (wc.heap[gb356]? = some (.cells #[(.slice A0_0 l0_0.length c0_0)] 31 (0, 0))) ∧ Aside0 (Below w.heap.size w wc))
        case first =>
         have H := HC16.out
         clear HC16
         by_cases c17 : (rd l2 x7_2) < 0
         ·
          rw [if_pos c17] at H
          have c17b0 : decide ((rd l2 x7_2) < 0) = true := decide_eq_true c17
          clear c17
          (first | rw [c17b0] | (simp only [i64_w, i32_w]; rw [c17b0]) | skip)
          have H' := Aside0.mk H
          clear H
          try go_wp2
          have n0_ := Aside0.mk (blk_drew BK356.out)
          have n1_ := Aside0.mk (below_drew1 HB.out)
          clear BK356
          clear HB
          have BK356 := n0_
          have HB := n1_
          clear n0_ n1_
          refine start_ (n := 35) (S := fun w' => True) (ds := []) (bsq 0 35) (by kernel_rfl) rfl rfl trivial (fun hHeld => ?_); refine with_tabW signalbenchref47_Matches.tab7 signalbenchref47_Matches.bits7 (fun HT_ HW_ => ?_)
          generalize wr.drew = w18 at BK356 HB hHeld ⊢
          refine pu 0 30 (bsq 1 34) ?_
          refine pu 1 31 (bsq 2 33) ?_
          refine pu 2 32 (bsq 3 32) ?_
          refine un 3 33 (bsq 4 31) ?_
          refine un 4 34 (bsq 5 30) ?_
          refine un 5 35 (bsq 6 29) ?_
          refine un 6 36 (bsq 7 28) ?_
          refine pu 7 37 (bsq 8 27) ?_
          refine pu 8 38 (bsq 9 26) ?_
          refine un 9 39 (bsq 10 25) ?_
          refine un 10 40 (bsq 11 24) ?_
          refine un 11 41 (bsq 12 23) ?_
          refine un 12 42 (bsq 13 22) ?_
          refine un 13 43 (bsq 14 21) ?_
          refine un 14 44 (bsq 15 20) ?_
          refine un 15 45 (bsq 16 19) ?_
          refine un 16 46 (bsq 17 18) ?_
          refine un 17 47 (bsq 18 17) ?_
          refine un 18 48 (bsq 19 16) ?_
          refine un 19 49 (bsq 20 15) ?_
          refine pu 20 50 (bsq 21 14) ?_
          refine pu 21 51 (bsq 22 13) ?_
          refine un 22 52 (bsq 23 12) ?_
          refine un 23 53 (bsq 24 11) ?_
          refine un 24 54 (bsq 25 10) ?_
          refine un 25 55 (bsq 26 9) ?_
          refine un 26 56 (bsq 27 8) ?_
          refine un 27 57 (bsq 28 7) ?_
          refine un 28 58 (bsq 29 6) ?_
          refine un 29 59 (bsq 30 5) ?_
          refine un 30 60 (bsq 31 4) ?_
          refine un 31 61 (bsq 32 3) ?_
          refine un 32 62 (bsq 33 2) ?_
          refine un 33 63 (bsq 34 1) ?_
          refine pu 34 64 (bsq 35 0) ?_
          refine done_ (done_of HT_.out (by kernel_rfl)) ?_
          try go_wp2
          go_meet
          case rel => exact ⟨_, (true), (by first | rfl | (simp; done) | (simp [*]; done)), H', ⟨by have := HJ3.out; have := HK2.out; first | omega | exact Nat.le_refl _⟩, ⟨bg BK356.out⟩, ⟨bs HB.out⟩⟩
         ·
          rw [if_neg c17] at H
          have c17b0 : decide ((rd l2 x7_2) < 0) = false := decide_eq_false c17
          clear c17
          (first | rw [c17b0] | (simp only [i64_w, i32_w]; rw [c17b0]) | skip)
          by_cases c19 : (rd l2 x7_2) ≥ (l1.length : Int)
          ·
           rw [if_pos c19] at H
           have c19b0 : decide ((l1.length : Int) ≤ (rd l2 x7_2)) = true := decide_eq_true c19
           clear c19
           have H' := Aside0.mk H
           clear H
           try go_wp2
           have n0_ := Aside0.mk (blk_drew BK356.out)
           have n1_ := Aside0.mk (below_drew1 HB.out)
           clear BK356
           clear HB
           have BK356 := n0_
           have HB := n1_
           clear n0_ n1_
           refine start_ (n := 35) (S := fun w' => True) (ds := []) (bsq 0 35) (by kernel_rfl) rfl rfl trivial (fun hHeld => ?_); refine with_tabW signalbenchref47_Matches.tab7 signalbenchref47_Matches.bits7 (fun HT_ HW_ => ?_)
           generalize wr.drew = w20 at BK356 HB hHeld ⊢
           refine pu 0 30 (bsq 1 34) ?_
           refine pu 1 31 (bsq 2 33) ?_
           refine pu 2 32 (bsq 3 32) ?_
           refine pu 3 33 (bsq 4 31) ?_
           refine pu 4 34 (bsq 5 30) ?_
           refine pu 5 35 (bsq 6 29) ?_
           refine pu 6 36 (bsq 7 28) ?_
           refine pu 7 37 (bsq 8 27) ?_
           refine pu 8 38 (bsq 9 26) ?_
           refine un 9 39 (bsq 10 25) ?_
           refine un 10 40 (bsq 11 24) ?_
           refine un 11 41 (bsq 12 23) ?_
           refine un 12 42 (bsq 13 22) ?_
           refine un 13 43 (bsq 14 21) ?_
           refine un 14 44 (bsq 15 20) ?_
           refine un 15 45 (bsq 16 19) ?_
           refine un 16 46 (bsq 17 18) ?_
           refine un 17 47 (bsq 18 17) ?_
           refine un 18 48 (bsq 19 16) ?_
           refine un 19 49 (bsq 20 15) ?_
           refine pu 20 50 (bsq 21 14) ?_
           refine pu 21 51 (bsq 22 13) ?_
           refine un 22 52 (bsq 23 12) ?_
           refine un 23 53 (bsq 24 11) ?_
           refine un 24 54 (bsq 25 10) ?_
           refine un 25 55 (bsq 26 9) ?_
           refine un 26 56 (bsq 27 8) ?_
           refine un 27 57 (bsq 28 7) ?_
           refine un 28 58 (bsq 29 6) ?_
           refine un 29 59 (bsq 30 5) ?_
           refine un 30 60 (bsq 31 4) ?_
           refine un 31 61 (bsq 32 3) ?_
           refine un 32 62 (bsq 33 2) ?_
           refine un 33 63 (bsq 34 1) ?_
           refine pu 34 64 (bsq 35 0) ?_
           refine done_ (done_of HT_.out (by kernel_rfl)) ?_
           try go_wp2
           go_meet
           case rel => exact ⟨_, (true), (by first | rfl | (simp; done) | (simp [*]; done)), H', ⟨by have := HJ3.out; have := HK2.out; first | omega | exact Nat.le_refl _⟩, ⟨bg BK356.out⟩, ⟨bs HB.out⟩⟩
          ·
           rw [if_neg c19] at H
           have c19b0 : decide ((l1.length : Int) ≤ (rd l2 x7_2)) = false := decide_eq_false c19
           clear c19
           by_cases c21 : x7_2 > 0
           ·
            rw [if_pos c21] at H
            have c21b0 : decide (0 < x7_2) = true := decide_eq_true c21
            clear c21
            obtain ⟨ji22, hji22⟩ : ∃ j_ : Int, (wrap64 (x7_2 - 1)) = j_ := ⟨_, rfl⟩
            replace H : (if 0 ≤ (ji22) then (if (ji22) < (l2.length : Int) then (if (rd l2 (ji22)) ≥ (rd l2 x7_2) then (signalbenchref47_Matches.j2 k2 l1 l2 x7_2 (rd l2 x7_2) true l0_0) else (if x7_2 < (l0_0.length : Int) then (if 0 ≤ (rd l2 x7_2) then (if (rd l2 x7_2) < (l1.length : Int) then ((signalbenchref47_satisfies.f k2 ((rd_T50 l0_0 x7_2).f0.f0) ((rd_T50 l0_0 x7_2).f0.f1) ((rd_T50 l0_0 x7_2).f0.f2) ((rd_T50 l0_0 x7_2).f0.f3) ((rd_T50 l0_0 x7_2).f0.f4) ((rd_T46 l1 (rd l2 x7_2)).f0) ((rd_T46 l1 (rd l2 x7_2)).f1) ((rd_T46 l1 (rd l2 x7_2)).f2.f0) ((rd_T46 l1 (rd l2 x7_2)).f2.f1) ((rd_T46 l1 (rd l2 x7_2)).f2.f2) ((rd_T46 l1 (rd l2 x7_2)).f2.f3) ((rd_T46 l1 (rd l2 x7_2)).f2.f4) ((rd_T46 l1 (rd l2 x7_2)).f2.f5) ((rd_T46 l1 (rd l2 x7_2)).f2.f6)).bind fun t362 => (signalbenchref47_Matches.j2 k2 l1 l2 x7_2 (rd l2 x7_2) (!t362) l0_0)) else (none)) else (none)) else (none))) else (none)) else (none)) = some r := by first | (rw [hji22] at H; exact H) | (simp only [hji22] at H ⊢; exact H)
            have hji22w : (IntKind.i64.wrap (x7_2 - 1)) = ji22 := (i64_w _).trans hji22
            by_cases c23 : 0 ≤ (ji22)
            ·
             rw [if_pos c23] at H
             have c23b0 : decide (0 ≤ (ji22)) = true := decide_eq_true c23
             clear c23
             by_cases c24 : (ji22) < (l2.length : Int)
             ·
              rw [if_pos c24] at H
              have c24b0 : decide ((ji22) < (l2.length : Int)) = true := decide_eq_true c24
              clear c24
              by_cases c25 : (rd l2 (ji22)) ≥ (rd l2 x7_2)
              ·
               rw [if_pos c25] at H
               have c25b0 : decide ((rd l2 x7_2) ≤ (rd l2 (ji22))) = true := decide_eq_true c25
               clear c25
               have H' := Aside0.mk H
               clear H
               try go_wp2
               have n0_ := Aside0.mk (blk_drew BK356.out)
               have n1_ := Aside0.mk (below_drew1 HB.out)
               clear BK356
               clear HB
               have BK356 := n0_
               have HB := n1_
               clear n0_ n1_
               have p359 : 0 ≤ ((ji22) : Int) := of_decide_eq_true (by first | (with_reducible assumption) | assumption)
               have q359 : (ji22) < (l2.length : Int) := of_decide_eq_true (by first | (with_reducible assumption) | assumption)
               obtain ⟨ad359, e359, hx359_0⟩ := Kd.at_int HR2.out (ji22) p359 q359
               have hw359_0 := hx359_0
               obtain rfl : ad358 = ad359 := (by injection e359)
               replace hx359_0 := pw_cell_below HB.out hx359_0
               replace p359 := eq_true p359
               replace q359 := eq_true q359
               refine start_ (n := 35) (S := fun w' => w'.cell? (ad358.add ((ji22)).toNat) = some (.int .i64 (rd l2 (ji22)))) (ds := []) (bsq 0 35) (by kernel_rfl) rfl rfl (((HB.out.cell (World.block_lt_of_cell? w _ hw359_0)).trans hw359_0)) (fun hHeld => ?_); refine with_tabW signalbenchref47_Matches.tab7 signalbenchref47_Matches.bits7 (fun HT_ HW_ => ?_)
               generalize wr.drew = w26 at BK356 HB hx359_0 hHeld ⊢
               refine pu 0 30 (bsq 1 34) ?_
               refine pu 1 31 (bsq 2 33) ?_
               refine pu 2 32 (bsq 3 32) ?_
               refine pu 3 33 (bsq 4 31) ?_
               refine pu 4 34 (bsq 5 30) ?_
               refine pu 5 35 (bsq 6 29) ?_
               refine pu 6 36 (bsq 7 28) ?_
               refine pu 7 37 (bsq 8 27) ?_
               refine pu 8 38 (bsq 9 26) ?_
               refine pu 9 39 (bsq 10 25) ?_
               refine pu 10 40 (bsq 11 24) ?_
               refine pu 11 41 (bsq 12 23) ?_
               refine pu 12 42 (bsq 13 22) ?_
               refine pu 13 43 (bsq 14 21) ?_
               refine pu 14 44 (bsq 15 20) ?_
               refine pu 15 45 (bsq 16 19) ?_
               refine pu 17 47 (bls [16, 1, 1, 17]) ?_
               refine tk 16 46 (bsq 18 17) hHeld ?_ (he := by intro w' s0; go_simp; with_reducible rfl)
               refine pu 18 48 (bsq 19 16) ?_
               refine pu 19 49 (bsq 20 15) ?_
               refine pu 20 50 (bsq 21 14) ?_
               refine pu 21 51 (bsq 22 13) ?_
               refine un 22 52 (bsq 23 12) ?_
               refine un 23 53 (bsq 24 11) ?_
               refine un 24 54 (bsq 25 10) ?_
               refine un 25 55 (bsq 26 9) ?_
               refine un 26 56 (bsq 27 8) ?_
               refine un 27 57 (bsq 28 7) ?_
               refine un 28 58 (bsq 29 6) ?_
               refine un 29 59 (bsq 30 5) ?_
               refine un 30 60 (bsq 31 4) ?_
               refine un 31 61 (bsq 32 3) ?_
               refine un 32 62 (bsq 33 2) ?_
               refine un 33 63 (bsq 34 1) ?_
               refine pu 34 64 (bsq 35 0) ?_
               refine done_ (done_of HT_.out (by kernel_rfl)) ?_
               try go_wp2
               go_meet
               case rel => exact ⟨_, (true), (by first | rfl | (simp; done) | (simp [*]; done)), H', ⟨by have := HJ3.out; have := HK2.out; first | omega | exact Nat.le_refl _⟩, ⟨bg BK356.out⟩, ⟨bs HB.out⟩⟩
              ·
               rw [if_neg c25] at H
               have c25b0 : decide ((rd l2 x7_2) ≤ (rd l2 (ji22))) = false := decide_eq_false c25
               clear c25
               by_cases c27 : x7_2 < (l0_0.length : Int)
               ·
                rw [if_pos c27] at H
                have c27b0 : decide (x7_2 < (l0_0.length : Int)) = true := decide_eq_true c27
                clear c27
                by_cases c28 : 0 ≤ (rd l2 x7_2)
                ·
                 rw [if_pos c28] at H
                 have c28b0 : decide (0 ≤ (rd l2 x7_2)) = true := decide_eq_true c28
                 clear c28
                 by_cases c29 : (rd l2 x7_2) < (l1.length : Int)
                 ·
                  rw [if_pos c29] at H
                  have c29b0 : decide ((rd l2 x7_2) < (l1.length : Int)) = true := decide_eq_true c29
                  clear c29
                  replace H := Option.bind_eq_some_iff.mp H
                  obtain ⟨t362, A300, H⟩ := H
                  replace H : (signalbenchref47_Matches.j2 k2 l1 l2 x7_2 (rd l2 x7_2) (!t362) l0_0) = some r := H
                  have A30 := Aside0.mk A300
                  clear A300
                  have H' := Aside0.mk H
                  clear H
                  try go_wp2
                  have n0_ := Aside0.mk (blk_drew BK356.out)
                  have n1_ := Aside0.mk (below_drew1 HB.out)
                  clear BK356
                  clear HB
                  have BK356 := n0_
                  have HB := n1_
                  clear n0_ n1_
                  have p359 : 0 ≤ ((ji22) : Int) := of_decide_eq_true (by first | (with_reducible assumption) | assumption)
                  have q359 : (ji22) < (l2.length : Int) := of_decide_eq_true (by first | (with_reducible assumption) | assumption)
                  obtain ⟨ad359, e359, hx359_0⟩ := Kd.at_int HR2.out (ji22) p359 q359
                  have hw359_0 := hx359_0
                  obtain rfl : ad358 = ad359 := (by injection e359)
                  replace hx359_0 := pw_cell_below HB.out hx359_0
                  replace p359 := eq_true p359
                  replace q359 := eq_true q359
                  have p360 : 0 ≤ (x7_2 : Int) := of_decide_eq_true (by first | (with_reducible assumption) | assumption)
                  have q360 : x7_2 < (l0_0.length : Int) := of_decide_eq_true (by first | (with_reducible assumption) | assumption)
                  obtain ⟨ad360, e360, hx360_0, hx360_1, hx360_2, hx360_3, hx360_4, hx360_5, hx360_6, hx360_7, hx360_8, hx360_9, hx360_10, hx360_11⟩ := at_T50 HR0_0.out x7_2 p360 q360
                  have hw360_11 := hx360_11
                  have hw360_10 := hx360_10
                  have hw360_9 := hx360_9
                  have hw360_8 := hx360_8
                  have hw360_7 := hx360_7
                  have hw360_6 := hx360_6
                  have hw360_5 := hx360_5
                  have hw360_4 := hx360_4
                  have hw360_3 := hx360_3
                  have hw360_2 := hx360_2
                  have hw360_1 := hx360_1
                  have hw360_0 := hx360_0
                  cases e360
                  replace hx360_0 := pw_cell_below HB.out hx360_0
                  replace hx360_1 := pw_cell_below HB.out hx360_1
                  replace hx360_2 := pw_cell_below HB.out hx360_2
                  replace hx360_3 := pw_cell_below HB.out hx360_3
                  replace hx360_4 := pw_cell_below HB.out hx360_4
                  replace hx360_5 := pw_cell_below HB.out hx360_5
                  replace hx360_6 := pw_cell_below HB.out hx360_6
                  replace hx360_7 := pw_cell_below HB.out hx360_7
                  replace hx360_8 := pw_cell_below HB.out hx360_8
                  replace hx360_9 := pw_cell_below HB.out hx360_9
                  replace hx360_10 := pw_cell_below HB.out hx360_10
                  replace hx360_11 := pw_cell_below HB.out hx360_11
                  replace p360 := eq_true p360
                  replace q360 := eq_true q360
                  have p361 : 0 ≤ ((rd l2 x7_2) : Int) := of_decide_eq_true (by first | (with_reducible assumption) | assumption)
                  have q361 : (rd l2 x7_2) < (l1.length : Int) := of_decide_eq_true (by first | (with_reducible assumption) | assumption)
                  obtain ⟨ad361, e361, hx361_0, hx361_1, hx361_2, hx361_3, hx361_4, hx361_5, hx361_6, hx361_7, hx361_8⟩ := at_T46 HR1.out (rd l2 x7_2) p361 q361
                  have hw361_8 := hx361_8
                  have hw361_7 := hx361_7
                  have hw361_6 := hx361_6
                  have hw361_5 := hx361_5
                  have hw361_4 := hx361_4
                  have hw361_3 := hx361_3
                  have hw361_2 := hx361_2
                  have hw361_1 := hx361_1
                  have hw361_0 := hx361_0
                  cases e361
                  replace hx361_0 := pw_cell_below HB.out hx361_0
                  replace hx361_1 := pw_cell_below HB.out hx361_1
                  replace hx361_2 := pw_cell_below HB.out hx361_2
                  replace hx361_3 := pw_cell_below HB.out hx361_3
                  replace hx361_4 := pw_cell_below HB.out hx361_4
                  replace hx361_5 := pw_cell_below HB.out hx361_5
                  replace hx361_6 := pw_cell_below HB.out hx361_6
                  replace hx361_7 := pw_cell_below HB.out hx361_7
                  replace hx361_8 := pw_cell_below HB.out hx361_8
                  replace p361 := eq_true p361
                  replace q361 := eq_true q361
                  refine start_ (n := 35) (S := fun w' => w'.cell? ⟨gb356, 0, none⟩ = some (.slice (some ad360) l0_0.length c0_0) ∧ w'.cell? (ad358.add ((ji22)).toNat) = some (.int .i64 (rd l2 (ji22))) ∧ w'.cell? (ad360.add ((x7_2).toNat * 12)) = some (.int .i64 ((rd_T50 l0_0 x7_2).f0.f0)) ∧ w'.cell? ⟨(ad360.add ((x7_2).toNat * 12)).block, (ad360.add ((x7_2).toNat * 12)).off + 1, none⟩ = some (.int .i64 ((rd_T50 l0_0 x7_2).f0.f1)) ∧ w'.cell? ⟨(ad360.add ((x7_2).toNat * 12)).block, (ad360.add ((x7_2).toNat * 12)).off + 2, none⟩ = some (.int .i64 ((rd_T50 l0_0 x7_2).f0.f2)) ∧ w'.cell? ⟨(ad360.add ((x7_2).toNat * 12)).block, (ad360.add ((x7_2).toNat * 12)).off + 3, none⟩ = some (.int .i64 ((rd_T50 l0_0 x7_2).f0.f3)) ∧ w'.cell? ⟨(ad360.add ((x7_2).toNat * 12)).block, (ad360.add ((x7_2).toNat * 12)).off + 4, none⟩ = some (.int .i64 ((rd_T50 l0_0 x7_2).f0.f4)) ∧ w'.cell? ⟨(ad360.add ((x7_2).toNat * 12)).block, (ad360.add ((x7_2).toNat * 12)).off + 5, none⟩ = some (.int .i64 ((rd_T50 l0_0 x7_2).f1)) ∧ w'.cell? ⟨(ad360.add ((x7_2).toNat * 12)).block, (ad360.add ((x7_2).toNat * 12)).off + 6, none⟩ = some (.bool ((rd_T50 l0_0 x7_2).f2)) ∧ w'.cell? ⟨(ad360.add ((x7_2).toNat * 12)).block, (ad360.add ((x7_2).toNat * 12)).off + 7, none⟩ = some (.int .i64 ((rd_T50 l0_0 x7_2).f3.f0)) ∧ w'.cell? ⟨(ad360.add ((x7_2).toNat * 12)).block, (ad360.add ((x7_2).toNat * 12)).off + 8, none⟩ = some (.int .i64 ((rd_T50 l0_0 x7_2).f3.f1)) ∧ w'.cell? ⟨(ad360.add ((x7_2).toNat * 12)).block, (ad360.add ((x7_2).toNat * 12)).off + 9, none⟩ = some (.int .i64 ((rd_T50 l0_0 x7_2).f3.f2)) ∧ w'.cell? ⟨(ad360.add ((x7_2).toNat * 12)).block, (ad360.add ((x7_2).toNat * 12)).off + 10, none⟩ = some (.int .i64 ((rd_T50 l0_0 x7_2).f3.f3)) ∧ w'.cell? ⟨(ad360.add ((x7_2).toNat * 12)).block, (ad360.add ((x7_2).toNat * 12)).off + 11, none⟩ = some (.int .i64 ((rd_T50 l0_0 x7_2).f3.f4)) ∧ w'.cell? (ad361.add (((rd l2 x7_2)).toNat * 9)) = some (.int .i64 ((rd_T46 l1 (rd l2 x7_2)).f0)) ∧ w'.cell? ⟨(ad361.add (((rd l2 x7_2)).toNat * 9)).block, (ad361.add (((rd l2 x7_2)).toNat * 9)).off + 1, none⟩ = some (.int .i64 ((rd_T46 l1 (rd l2 x7_2)).f1)) ∧ w'.cell? ⟨(ad361.add (((rd l2 x7_2)).toNat * 9)).block, (ad361.add (((rd l2 x7_2)).toNat * 9)).off + 2, none⟩ = some (.int .i64 ((rd_T46 l1 (rd l2 x7_2)).f2.f0)) ∧ w'.cell? ⟨(ad361.add (((rd l2 x7_2)).toNat * 9)).block, (ad361.add (((rd l2 x7_2)).toNat * 9)).off + 3, none⟩ = some (.int .i64 ((rd_T46 l1 (rd l2 x7_2)).f2.f1)) ∧ w'.cell? ⟨(ad361.add (((rd l2 x7_2)).toNat * 9)).block, (ad361.add (((rd l2 x7_2)).toNat * 9)).off + 4, none⟩ = some (.int .i64 ((rd_T46 l1 (rd l2 x7_2)).f2.f2)) ∧ w'.cell? ⟨(ad361.add (((rd l2 x7_2)).toNat * 9)).block, (ad361.add (((rd l2 x7_2)).toNat * 9)).off + 5, none⟩ = some (.int .i64 ((rd_T46 l1 (rd l2 x7_2)).f2.f3)) ∧ w'.cell? ⟨(ad361.add (((rd l2 x7_2)).toNat * 9)).block, (ad361.add (((rd l2 x7_2)).toNat * 9)).off + 6, none⟩ = some (.int .i64 ((rd_T46 l1 (rd l2 x7_2)).f2.f4)) ∧ w'.cell? ⟨(ad361.add (((rd l2 x7_2)).toNat * 9)).block, (ad361.add (((rd l2 x7_2)).toNat * 9)).off + 7, none⟩ = some (.string ((rd_T46 l1 (rd l2 x7_2)).f2.f5)) ∧ w'.cell? ⟨(ad361.add (((rd l2 x7_2)).toNat * 9)).block, (ad361.add (((rd l2 x7_2)).toNat * 9)).off + 8, none⟩ = some (.int .i64 ((rd_T46 l1 (rd l2 x7_2)).f2.f6))) (ds := []) (bsq 0 35) (by kernel_rfl) rfl rfl ⟨(blk_cell BK356.out 0).trans rfl, ((HB.out.cell (World.block_lt_of_cell? w _ hw359_0)).trans hw359_0), ((HB.out.cell (World.block_lt_of_cell? w _ hw360_0)).trans hw360_0), ((HB.out.cell (World.block_lt_of_cell? w _ hw360_1)).trans hw360_1), ((HB.out.cell (World.block_lt_of_cell? w _ hw360_2)).trans hw360_2), ((HB.out.cell (World.block_lt_of_cell? w _ hw360_3)).trans hw360_3), ((HB.out.cell (World.block_lt_of_cell? w _ hw360_4)).trans hw360_4), ((HB.out.cell (World.block_lt_of_cell? w _ hw360_5)).trans hw360_5), ((HB.out.cell (World.block_lt_of_cell? w _ hw360_6)).trans hw360_6), ((HB.out.cell (World.block_lt_of_cell? w _ hw360_7)).trans hw360_7), ((HB.out.cell (World.block_lt_of_cell? w _ hw360_8)).trans hw360_8), ((HB.out.cell (World.block_lt_of_cell? w _ hw360_9)).trans hw360_9), ((HB.out.cell (World.block_lt_of_cell? w _ hw360_10)).trans hw360_10), ((HB.out.cell (World.block_lt_of_cell? w _ hw360_11)).trans hw360_11), ((HB.out.cell (World.block_lt_of_cell? w _ hw361_0)).trans hw361_0), ((HB.out.cell (World.block_lt_of_cell? w _ hw361_1)).trans hw361_1), ((HB.out.cell (World.block_lt_of_cell? w _ hw361_2)).trans hw361_2), ((HB.out.cell (World.block_lt_of_cell? w _ hw361_3)).trans hw361_3), ((HB.out.cell (World.block_lt_of_cell? w _ hw361_4)).trans hw361_4), ((HB.out.cell (World.block_lt_of_cell? w _ hw361_5)).trans hw361_5), ((HB.out.cell (World.block_lt_of_cell? w _ hw361_6)).trans hw361_6), ((HB.out.cell (World.block_lt_of_cell? w _ hw361_7)).trans hw361_7), ((HB.out.cell (World.block_lt_of_cell? w _ hw361_8)).trans hw361_8)⟩ (fun hHeld => ?_); refine with_tabW signalbenchref47_Matches.tab7 signalbenchref47_Matches.bits7 (fun HT_ HW_ => ?_)
                  generalize wr.drew = w31 at BK356 HB hx359_0 hx360_0 hx360_1 hx360_10 hx360_11 hx360_2 hx360_3 hx360_4 hx360_5 hx360_6 hx360_7 hx360_8 hx360_9 hx361_0 hx361_1 hx361_2 hx361_3 hx361_4 hx361_5 hx361_6 hx361_7 hx361_8 hHeld ⊢
                  refine pu 0 30 (bsq 1 34) ?_
                  refine pu 1 31 (bsq 2 33) ?_
                  refine pu 2 32 (bsq 3 32) ?_
                  refine pu 3 33 (bsq 4 31) ?_
                  refine pu 4 34 (bsq 5 30) ?_
                  refine pu 5 35 (bsq 6 29) ?_
                  refine pu 6 36 (bsq 7 28) ?_
                  refine pu 7 37 (bsq 8 27) ?_
                  refine pu 8 38 (bsq 9 26) ?_
                  refine pu 9 39 (bsq 10 25) ?_
                  refine pu 10 40 (bsq 11 24) ?_
                  refine pu 11 41 (bsq 12 23) ?_
                  refine pu 12 42 (bsq 13 22) ?_
                  refine pu 13 43 (bsq 14 21) ?_
                  refine pu 14 44 (bsq 15 20) ?_
                  refine pu 15 45 (bsq 16 19) ?_
                  refine pu 17 47 (bls [16, 1, 1, 17]) ?_
                  refine tk 16 46 (bsq 18 17) hHeld ?_ (he := by rintro w' ⟨s0, s1, s2, s3, s4, s5, s6, s7, s8, s9, s10, s11, s12, s13, s14, s15, s16, s17, s18, s19, s20, s21, s22⟩; go_simp; with_reducible rfl)
                  refine pu 18 48 (bsq 19 16) ?_
                  refine pu 19 49 (bsq 20 15) ?_
                  refine pu 20 50 (bsq 21 14) ?_
                  refine pu 21 51 (bsq 22 13) ?_
                  refine pu 22 52 (bsq 23 12) ?_
                  refine pu 24 54 (bls [23, 1, 1, 10]) ?_
                  refine pu 28 58 (bls [23, 1, 1, 3, 1, 6]) ?_
                  refine pu 29 59 (bls [23, 1, 1, 3, 2, 5]) ?_
                  refine pu 30 60 (bls [23, 1, 1, 3, 3, 4]) ?_
                  refine tk 23 53 (bls [25, 3, 3, 4]) hHeld ?_ (he := by rintro w' ⟨s0, s1, s2, s3, s4, s5, s6, s7, s8, s9, s10, s11, s12, s13, s14, s15, s16, s17, s18, s19, s20, s21, s22⟩; go_simp; with_reducible rfl)
                  refine pu 25 55 (bls [26, 2, 3, 4]) ?_
                  refine pu 26 56 (bls [27, 1, 3, 4]) ?_
                  refine tk 27 57 (bsq 31 4) hHeld ?_ (he := by rintro w' ⟨s0, s1, s2, s3, s4, s5, s6, s7, s8, s9, s10, s11, s12, s13, s14, s15, s16, s17, s18, s19, s20, s21, s22⟩; go_simp; with_reducible rfl)
                  refine tk 31 61 (bsq 32 3) hHeld ?_ (he := by rintro w' ⟨s0, s1, s2, s3, s4, s5, s6, s7, s8, s9, s10, s11, s12, s13, s14, s15, s16, s17, s18, s19, s20, s21, s22⟩; go_simp; with_reducible rfl)
                  refine one_ (i := 32) (N := some 62) (bsq 33 2) rfl rfl (one_of HT_.out (by kernel_rfl)) (by decide) (fun K hK => ?_)
                  refine goes_ Try.func59 (by kernel_rfl) rfl #[.agg #[.int .i64 ((rd_T50 l0_0 x7_2).f0.f0), .int .i64 ((rd_T50 l0_0 x7_2).f0.f1), .int .i64 ((rd_T50 l0_0 x7_2).f0.f2), .int .i64 ((rd_T50 l0_0 x7_2).f0.f3), .int .i64 ((rd_T50 l0_0 x7_2).f0.f4)], .agg #[.int .i64 ((rd_T46 l1 (rd l2 x7_2)).f0), .int .i64 ((rd_T46 l1 (rd l2 x7_2)).f1), .int .i64 ((rd_T46 l1 (rd l2 x7_2)).f2.f0), .int .i64 ((rd_T46 l1 (rd l2 x7_2)).f2.f1), .int .i64 ((rd_T46 l1 (rd l2 x7_2)).f2.f2), .int .i64 ((rd_T46 l1 (rd l2 x7_2)).f2.f3), .int .i64 ((rd_T46 l1 (rd l2 x7_2)).f2.f4), .string ((rd_T46 l1 (rd l2 x7_2)).f2.f5), .int .i64 ((rd_T46 l1 (rd l2 x7_2)).f2.f6)]] (by rfl) rfl rfl (by (try simp only [List.map_toArray, List.map_cons, List.map_nil]); first | done | rfl | (simp only [List.length_drop, List.length_take]; rfl)) ?_
                  with_reducible refine (signalbenchref47_satisfies.calls k2 ((rd_T50 l0_0 x7_2).f0.f0) ((rd_T50 l0_0 x7_2).f0.f1) ((rd_T50 l0_0 x7_2).f0.f2) ((rd_T50 l0_0 x7_2).f0.f3) ((rd_T50 l0_0 x7_2).f0.f4) ((rd_T46 l1 (rd l2 x7_2)).f0) ((rd_T46 l1 (rd l2 x7_2)).f1) ((rd_T46 l1 (rd l2 x7_2)).f2.f0) ((rd_T46 l1 (rd l2 x7_2)).f2.f1) ((rd_T46 l1 (rd l2 x7_2)).f2.f2) ((rd_T46 l1 (rd l2 x7_2)).f2.f3) ((rd_T46 l1 (rd l2 x7_2)).f2.f4) ((rd_T46 l1 (rd l2 x7_2)).f2.f5) ((rd_T46 l1 (rd l2 x7_2)).f2.f6) t362 _ A30.out).mono ?_
                  rintro e w32 ⟨rfl, hb⟩
                  refine ⟨_, rfl, ?_⟩
                  have n0_ := Aside0.mk (blk_below (bg BK356.out) hb)
                  have n1_ := Aside0.mk (below_step (bs HB.out) hb)
                  clear BK356
                  clear HB
                  have BK356 := n0_
                  have HB := n1_
                  clear n0_ n1_
                  (try clear hb)
                  (try clear hb2)
                  (try clear hk)
                  (try clear hi)
                  refine hK.out _ _ ⟨(blk_cell BK356.out 0).trans rfl, ((HB.out.cell (World.block_lt_of_cell? w _ hw359_0)).trans hw359_0), ((HB.out.cell (World.block_lt_of_cell? w _ hw360_0)).trans hw360_0), ((HB.out.cell (World.block_lt_of_cell? w _ hw360_1)).trans hw360_1), ((HB.out.cell (World.block_lt_of_cell? w _ hw360_2)).trans hw360_2), ((HB.out.cell (World.block_lt_of_cell? w _ hw360_3)).trans hw360_3), ((HB.out.cell (World.block_lt_of_cell? w _ hw360_4)).trans hw360_4), ((HB.out.cell (World.block_lt_of_cell? w _ hw360_5)).trans hw360_5), ((HB.out.cell (World.block_lt_of_cell? w _ hw360_6)).trans hw360_6), ((HB.out.cell (World.block_lt_of_cell? w _ hw360_7)).trans hw360_7), ((HB.out.cell (World.block_lt_of_cell? w _ hw360_8)).trans hw360_8), ((HB.out.cell (World.block_lt_of_cell? w _ hw360_9)).trans hw360_9), ((HB.out.cell (World.block_lt_of_cell? w _ hw360_10)).trans hw360_10), ((HB.out.cell (World.block_lt_of_cell? w _ hw360_11)).trans hw360_11), ((HB.out.cell (World.block_lt_of_cell? w _ hw361_0)).trans hw361_0), ((HB.out.cell (World.block_lt_of_cell? w _ hw361_1)).trans hw361_1), ((HB.out.cell (World.block_lt_of_cell? w _ hw361_2)).trans hw361_2), ((HB.out.cell (World.block_lt_of_cell? w _ hw361_3)).trans hw361_3), ((HB.out.cell (World.block_lt_of_cell? w _ hw361_4)).trans hw361_4), ((HB.out.cell (World.block_lt_of_cell? w _ hw361_5)).trans hw361_5), ((HB.out.cell (World.block_lt_of_cell? w _ hw361_6)).trans hw361_6), ((HB.out.cell (World.block_lt_of_cell? w _ hw361_7)).trans hw361_7), ((HB.out.cell (World.block_lt_of_cell? w _ hw361_8)).trans hw361_8)⟩ (fun hHeld => ?_)
                  clear hK K
                  refine norm_ (a' := ?_) ?_ ?_
                  rotate_left
                  ·
                   show Act.put _ (some 62) _ = _
                   simp only [Act.put, List.setIfInBounds_toArray, List.set_cons_zero, List.set_cons_succ, i64_w, i32_w]
                   rfl
                  refine pu 33 63 (bsq 34 1) ?_
                  refine pu 34 64 (bsq 35 0) ?_
                  refine done_ (done_of HT_.out (by kernel_rfl)) ?_
                  try go_wp2
                  go_meet
                  case rel => exact ⟨_, (!t362), (by first | rfl | (simp; done) | (simp [*]; done)), H', ⟨by have := HJ3.out; have := HK2.out; first | omega | exact Nat.le_refl _⟩, ⟨bg BK356.out⟩, ⟨bs HB.out⟩⟩
                 ·
                  rw [if_neg c29] at H
                  exact absurd H (by simp)
                ·
                 rw [if_neg c28] at H
                 exact absurd H (by simp)
               ·
                rw [if_neg c27] at H
                exact absurd H (by simp)
             ·
              rw [if_neg c24] at H
              exact absurd H (by simp)
            ·
             rw [if_neg c23] at H
             exact absurd H (by simp)
           ·
            rw [if_neg c21] at H
            have c21b0 : decide (0 < x7_2) = false := decide_eq_false c21
            clear c21
            by_cases c33 : x7_2 < (l0_0.length : Int)
            ·
             rw [if_pos c33] at H
             have c33b0 : decide (x7_2 < (l0_0.length : Int)) = true := decide_eq_true c33
             clear c33
             by_cases c34 : 0 ≤ (rd l2 x7_2)
             ·
              rw [if_pos c34] at H
              have c34b0 : decide (0 ≤ (rd l2 x7_2)) = true := decide_eq_true c34
              clear c34
              by_cases c35 : (rd l2 x7_2) < (l1.length : Int)
              ·
               rw [if_pos c35] at H
               have c35b0 : decide ((rd l2 x7_2) < (l1.length : Int)) = true := decide_eq_true c35
               clear c35
               replace H := Option.bind_eq_some_iff.mp H
               obtain ⟨t365, A360, H⟩ := H
               replace H : (signalbenchref47_Matches.j2 k2 l1 l2 x7_2 (rd l2 x7_2) (!t365) l0_0) = some r := H
               have A36 := Aside0.mk A360
               clear A360
               have H' := Aside0.mk H
               clear H
               try go_wp2
               have n0_ := Aside0.mk (blk_drew BK356.out)
               have n1_ := Aside0.mk (below_drew1 HB.out)
               clear BK356
               clear HB
               have BK356 := n0_
               have HB := n1_
               clear n0_ n1_
               have p363 : 0 ≤ (x7_2 : Int) := of_decide_eq_true (by first | (with_reducible assumption) | assumption)
               have q363 : x7_2 < (l0_0.length : Int) := of_decide_eq_true (by first | (with_reducible assumption) | assumption)
               obtain ⟨ad363, e363, hx363_0, hx363_1, hx363_2, hx363_3, hx363_4, hx363_5, hx363_6, hx363_7, hx363_8, hx363_9, hx363_10, hx363_11⟩ := at_T50 HR0_0.out x7_2 p363 q363
               have hw363_11 := hx363_11
               have hw363_10 := hx363_10
               have hw363_9 := hx363_9
               have hw363_8 := hx363_8
               have hw363_7 := hx363_7
               have hw363_6 := hx363_6
               have hw363_5 := hx363_5
               have hw363_4 := hx363_4
               have hw363_3 := hx363_3
               have hw363_2 := hx363_2
               have hw363_1 := hx363_1
               have hw363_0 := hx363_0
               cases e363
               replace hx363_0 := pw_cell_below HB.out hx363_0
               replace hx363_1 := pw_cell_below HB.out hx363_1
               replace hx363_2 := pw_cell_below HB.out hx363_2
               replace hx363_3 := pw_cell_below HB.out hx363_3
               replace hx363_4 := pw_cell_below HB.out hx363_4
               replace hx363_5 := pw_cell_below HB.out hx363_5
               replace hx363_6 := pw_cell_below HB.out hx363_6
               replace hx363_7 := pw_cell_below HB.out hx363_7
               replace hx363_8 := pw_cell_below HB.out hx363_8
               replace hx363_9 := pw_cell_below HB.out hx363_9
               replace hx363_10 := pw_cell_below HB.out hx363_10
               replace hx363_11 := pw_cell_below HB.out hx363_11
               replace p363 := eq_true p363
               replace q363 := eq_true q363
               have p364 : 0 ≤ ((rd l2 x7_2) : Int) := of_decide_eq_true (by first | (with_reducible assumption) | assumption)
               have q364 : (rd l2 x7_2) < (l1.length : Int) := of_decide_eq_true (by first | (with_reducible assumption) | assumption)
               obtain ⟨ad364, e364, hx364_0, hx364_1, hx364_2, hx364_3, hx364_4, hx364_5, hx364_6, hx364_7, hx364_8⟩ := at_T46 HR1.out (rd l2 x7_2) p364 q364
               have hw364_8 := hx364_8
               have hw364_7 := hx364_7
               have hw364_6 := hx364_6
               have hw364_5 := hx364_5
               have hw364_4 := hx364_4
               have hw364_3 := hx364_3
               have hw364_2 := hx364_2
               have hw364_1 := hx364_1
               have hw364_0 := hx364_0
               cases e364
               replace hx364_0 := pw_cell_below HB.out hx364_0
               replace hx364_1 := pw_cell_below HB.out hx364_1
               replace hx364_2 := pw_cell_below HB.out hx364_2
               replace hx364_3 := pw_cell_below HB.out hx364_3
               replace hx364_4 := pw_cell_below HB.out hx364_4
               replace hx364_5 := pw_cell_below HB.out hx364_5
               replace hx364_6 := pw_cell_below HB.out hx364_6
               replace hx364_7 := pw_cell_below HB.out hx364_7
               replace hx364_8 := pw_cell_below HB.out hx364_8
               replace p364 := eq_true p364
               replace q364 := eq_true q364
               refine start_ (n := 35) (S := fun w' => w'.cell? ⟨gb356, 0, none⟩ = some (.slice (some ad363) l0_0.length c0_0) ∧ w'.cell? (ad363.add ((x7_2).toNat * 12)) = some (.int .i64 ((rd_T50 l0_0 x7_2).f0.f0)) ∧ w'.cell? ⟨(ad363.add ((x7_2).toNat * 12)).block, (ad363.add ((x7_2).toNat * 12)).off + 1, none⟩ = some (.int .i64 ((rd_T50 l0_0 x7_2).f0.f1)) ∧ w'.cell? ⟨(ad363.add ((x7_2).toNat * 12)).block, (ad363.add ((x7_2).toNat * 12)).off + 2, none⟩ = some (.int .i64 ((rd_T50 l0_0 x7_2).f0.f2)) ∧ w'.cell? ⟨(ad363.add ((x7_2).toNat * 12)).block, (ad363.add ((x7_2).toNat * 12)).off + 3, none⟩ = some (.int .i64 ((rd_T50 l0_0 x7_2).f0.f3)) ∧ w'.cell? ⟨(ad363.add ((x7_2).toNat * 12)).block, (ad363.add ((x7_2).toNat * 12)).off + 4, none⟩ = some (.int .i64 ((rd_T50 l0_0 x7_2).f0.f4)) ∧ w'.cell? ⟨(ad363.add ((x7_2).toNat * 12)).block, (ad363.add ((x7_2).toNat * 12)).off + 5, none⟩ = some (.int .i64 ((rd_T50 l0_0 x7_2).f1)) ∧ w'.cell? ⟨(ad363.add ((x7_2).toNat * 12)).block, (ad363.add ((x7_2).toNat * 12)).off + 6, none⟩ = some (.bool ((rd_T50 l0_0 x7_2).f2)) ∧ w'.cell? ⟨(ad363.add ((x7_2).toNat * 12)).block, (ad363.add ((x7_2).toNat * 12)).off + 7, none⟩ = some (.int .i64 ((rd_T50 l0_0 x7_2).f3.f0)) ∧ w'.cell? ⟨(ad363.add ((x7_2).toNat * 12)).block, (ad363.add ((x7_2).toNat * 12)).off + 8, none⟩ = some (.int .i64 ((rd_T50 l0_0 x7_2).f3.f1)) ∧ w'.cell? ⟨(ad363.add ((x7_2).toNat * 12)).block, (ad363.add ((x7_2).toNat * 12)).off + 9, none⟩ = some (.int .i64 ((rd_T50 l0_0 x7_2).f3.f2)) ∧ w'.cell? ⟨(ad363.add ((x7_2).toNat * 12)).block, (ad363.add ((x7_2).toNat * 12)).off + 10, none⟩ = some (.int .i64 ((rd_T50 l0_0 x7_2).f3.f3)) ∧ w'.cell? ⟨(ad363.add ((x7_2).toNat * 12)).block, (ad363.add ((x7_2).toNat * 12)).off + 11, none⟩ = some (.int .i64 ((rd_T50 l0_0 x7_2).f3.f4)) ∧ w'.cell? (ad364.add (((rd l2 x7_2)).toNat * 9)) = some (.int .i64 ((rd_T46 l1 (rd l2 x7_2)).f0)) ∧ w'.cell? ⟨(ad364.add (((rd l2 x7_2)).toNat * 9)).block, (ad364.add (((rd l2 x7_2)).toNat * 9)).off + 1, none⟩ = some (.int .i64 ((rd_T46 l1 (rd l2 x7_2)).f1)) ∧ w'.cell? ⟨(ad364.add (((rd l2 x7_2)).toNat * 9)).block, (ad364.add (((rd l2 x7_2)).toNat * 9)).off + 2, none⟩ = some (.int .i64 ((rd_T46 l1 (rd l2 x7_2)).f2.f0)) ∧ w'.cell? ⟨(ad364.add (((rd l2 x7_2)).toNat * 9)).block, (ad364.add (((rd l2 x7_2)).toNat * 9)).off + 3, none⟩ = some (.int .i64 ((rd_T46 l1 (rd l2 x7_2)).f2.f1)) ∧ w'.cell? ⟨(ad364.add (((rd l2 x7_2)).toNat * 9)).block, (ad364.add (((rd l2 x7_2)).toNat * 9)).off + 4, none⟩ = some (.int .i64 ((rd_T46 l1 (rd l2 x7_2)).f2.f2)) ∧ w'.cell? ⟨(ad364.add (((rd l2 x7_2)).toNat * 9)).block, (ad364.add (((rd l2 x7_2)).toNat * 9)).off + 5, none⟩ = some (.int .i64 ((rd_T46 l1 (rd l2 x7_2)).f2.f3)) ∧ w'.cell? ⟨(ad364.add (((rd l2 x7_2)).toNat * 9)).block, (ad364.add (((rd l2 x7_2)).toNat * 9)).off + 6, none⟩ = some (.int .i64 ((rd_T46 l1 (rd l2 x7_2)).f2.f4)) ∧ w'.cell? ⟨(ad364.add (((rd l2 x7_2)).toNat * 9)).block, (ad364.add (((rd l2 x7_2)).toNat * 9)).off + 7, none⟩ = some (.string ((rd_T46 l1 (rd l2 x7_2)).f2.f5)) ∧ w'.cell? ⟨(ad364.add (((rd l2 x7_2)).toNat * 9)).block, (ad364.add (((rd l2 x7_2)).toNat * 9)).off + 8, none⟩ = some (.int .i64 ((rd_T46 l1 (rd l2 x7_2)).f2.f6))) (ds := []) (bsq 0 35) (by kernel_rfl) rfl rfl ⟨(blk_cell BK356.out 0).trans rfl, ((HB.out.cell (World.block_lt_of_cell? w _ hw363_0)).trans hw363_0), ((HB.out.cell (World.block_lt_of_cell? w _ hw363_1)).trans hw363_1), ((HB.out.cell (World.block_lt_of_cell? w _ hw363_2)).trans hw363_2), ((HB.out.cell (World.block_lt_of_cell? w _ hw363_3)).trans hw363_3), ((HB.out.cell (World.block_lt_of_cell? w _ hw363_4)).trans hw363_4), ((HB.out.cell (World.block_lt_of_cell? w _ hw363_5)).trans hw363_5), ((HB.out.cell (World.block_lt_of_cell? w _ hw363_6)).trans hw363_6), ((HB.out.cell (World.block_lt_of_cell? w _ hw363_7)).trans hw363_7), ((HB.out.cell (World.block_lt_of_cell? w _ hw363_8)).trans hw363_8), ((HB.out.cell (World.block_lt_of_cell? w _ hw363_9)).trans hw363_9), ((HB.out.cell (World.block_lt_of_cell? w _ hw363_10)).trans hw363_10), ((HB.out.cell (World.block_lt_of_cell? w _ hw363_11)).trans hw363_11), ((HB.out.cell (World.block_lt_of_cell? w _ hw364_0)).trans hw364_0), ((HB.out.cell (World.block_lt_of_cell? w _ hw364_1)).trans hw364_1), ((HB.out.cell (World.block_lt_of_cell? w _ hw364_2)).trans hw364_2), ((HB.out.cell (World.block_lt_of_cell? w _ hw364_3)).trans hw364_3), ((HB.out.cell (World.block_lt_of_cell? w _ hw364_4)).trans hw364_4), ((HB.out.cell (World.block_lt_of_cell? w _ hw364_5)).trans hw364_5), ((HB.out.cell (World.block_lt_of_cell? w _ hw364_6)).trans hw364_6), ((HB.out.cell (World.block_lt_of_cell? w _ hw364_7)).trans hw364_7), ((HB.out.cell (World.block_lt_of_cell? w _ hw364_8)).trans hw364_8)⟩ (fun hHeld => ?_); refine with_tabW signalbenchref47_Matches.tab7 signalbenchref47_Matches.bits7 (fun HT_ HW_ => ?_)
               generalize wr.drew = w37 at BK356 HB hx363_0 hx363_1 hx363_10 hx363_11 hx363_2 hx363_3 hx363_4 hx363_5 hx363_6 hx363_7 hx363_8 hx363_9 hx364_0 hx364_1 hx364_2 hx364_3 hx364_4 hx364_5 hx364_6 hx364_7 hx364_8 hHeld ⊢
               refine pu 0 30 (bsq 1 34) ?_
               refine pu 1 31 (bsq 2 33) ?_
               refine pu 2 32 (bsq 3 32) ?_
               refine pu 3 33 (bsq 4 31) ?_
               refine pu 4 34 (bsq 5 30) ?_
               refine pu 5 35 (bsq 6 29) ?_
               refine pu 6 36 (bsq 7 28) ?_
               refine pu 7 37 (bsq 8 27) ?_
               refine pu 8 38 (bsq 9 26) ?_
               refine pu 9 39 (bsq 10 25) ?_
               refine pu 10 40 (bsq 11 24) ?_
               refine pu 11 41 (bsq 12 23) ?_
               refine un 12 42 (bsq 13 22) ?_
               refine un 13 43 (bsq 14 21) ?_
               refine un 14 44 (bsq 15 20) ?_
               refine un 15 45 (bsq 16 19) ?_
               refine un 16 46 (bsq 17 18) ?_
               refine un 17 47 (bsq 18 17) ?_
               refine un 18 48 (bsq 19 16) ?_
               refine pu 19 49 (bsq 20 15) ?_
               refine pu 20 50 (bsq 21 14) ?_
               refine pu 21 51 (bsq 22 13) ?_
               refine pu 22 52 (bsq 23 12) ?_
               refine pu 24 54 (bls [23, 1, 1, 10]) ?_
               refine pu 28 58 (bls [23, 1, 1, 3, 1, 6]) ?_
               refine pu 29 59 (bls [23, 1, 1, 3, 2, 5]) ?_
               refine pu 30 60 (bls [23, 1, 1, 3, 3, 4]) ?_
               refine tk 23 53 (bls [25, 3, 3, 4]) hHeld ?_ (he := by rintro w' ⟨s0, s1, s2, s3, s4, s5, s6, s7, s8, s9, s10, s11, s12, s13, s14, s15, s16, s17, s18, s19, s20, s21⟩; go_simp; with_reducible rfl)
               refine pu 25 55 (bls [26, 2, 3, 4]) ?_
               refine pu 26 56 (bls [27, 1, 3, 4]) ?_
               refine tk 27 57 (bsq 31 4) hHeld ?_ (he := by rintro w' ⟨s0, s1, s2, s3, s4, s5, s6, s7, s8, s9, s10, s11, s12, s13, s14, s15, s16, s17, s18, s19, s20, s21⟩; go_simp; with_reducible rfl)
               refine tk 31 61 (bsq 32 3) hHeld ?_ (he := by rintro w' ⟨s0, s1, s2, s3, s4, s5, s6, s7, s8, s9, s10, s11, s12, s13, s14, s15, s16, s17, s18, s19, s20, s21⟩; go_simp; with_reducible rfl)
               refine one_ (i := 32) (N := some 62) (bsq 33 2) rfl rfl (one_of HT_.out (by kernel_rfl)) (by decide) (fun K hK => ?_)
               refine goes_ Try.func59 (by kernel_rfl) rfl #[.agg #[.int .i64 ((rd_T50 l0_0 x7_2).f0.f0), .int .i64 ((rd_T50 l0_0 x7_2).f0.f1), .int .i64 ((rd_T50 l0_0 x7_2).f0.f2), .int .i64 ((rd_T50 l0_0 x7_2).f0.f3), .int .i64 ((rd_T50 l0_0 x7_2).f0.f4)], .agg #[.int .i64 ((rd_T46 l1 (rd l2 x7_2)).f0), .int .i64 ((rd_T46 l1 (rd l2 x7_2)).f1), .int .i64 ((rd_T46 l1 (rd l2 x7_2)).f2.f0), .int .i64 ((rd_T46 l1 (rd l2 x7_2)).f2.f1), .int .i64 ((rd_T46 l1 (rd l2 x7_2)).f2.f2), .int .i64 ((rd_T46 l1 (rd l2 x7_2)).f2.f3), .int .i64 ((rd_T46 l1 (rd l2 x7_2)).f2.f4), .string ((rd_T46 l1 (rd l2 x7_2)).f2.f5), .int .i64 ((rd_T46 l1 (rd l2 x7_2)).f2.f6)]] (by rfl) rfl rfl (by (try simp only [List.map_toArray, List.map_cons, List.map_nil]); first | done | rfl | (simp only [List.length_drop, List.length_take]; rfl)) ?_
               with_reducible refine (signalbenchref47_satisfies.calls k2 ((rd_T50 l0_0 x7_2).f0.f0) ((rd_T50 l0_0 x7_2).f0.f1) ((rd_T50 l0_0 x7_2).f0.f2) ((rd_T50 l0_0 x7_2).f0.f3) ((rd_T50 l0_0 x7_2).f0.f4) ((rd_T46 l1 (rd l2 x7_2)).f0) ((rd_T46 l1 (rd l2 x7_2)).f1) ((rd_T46 l1 (rd l2 x7_2)).f2.f0) ((rd_T46 l1 (rd l2 x7_2)).f2.f1) ((rd_T46 l1 (rd l2 x7_2)).f2.f2) ((rd_T46 l1 (rd l2 x7_2)).f2.f3) ((rd_T46 l1 (rd l2 x7_2)).f2.f4) ((rd_T46 l1 (rd l2 x7_2)).f2.f5) ((rd_T46 l1 (rd l2 x7_2)).f2.f6) t365 _ A36.out).mono ?_
               rintro e w38 ⟨rfl, hb⟩
               refine ⟨_, rfl, ?_⟩
               have n0_ := Aside0.mk (blk_below (bg BK356.out) hb)
               have n1_ := Aside0.mk (below_step (bs HB.out) hb)
               clear BK356
               clear HB
               have BK356 := n0_
               have HB := n1_
               clear n0_ n1_
               (try clear hb)
               (try clear hb2)
               (try clear hk)
               (try clear hi)
               refine hK.out _ _ ⟨(blk_cell BK356.out 0).trans rfl, ((HB.out.cell (World.block_lt_of_cell? w _ hw363_0)).trans hw363_0), ((HB.out.cell (World.block_lt_of_cell? w _ hw363_1)).trans hw363_1), ((HB.out.cell (World.block_lt_of_cell? w _ hw363_2)).trans hw363_2), ((HB.out.cell (World.block_lt_of_cell? w _ hw363_3)).trans hw363_3), ((HB.out.cell (World.block_lt_of_cell? w _ hw363_4)).trans hw363_4), ((HB.out.cell (World.block_lt_of_cell? w _ hw363_5)).trans hw363_5), ((HB.out.cell (World.block_lt_of_cell? w _ hw363_6)).trans hw363_6), ((HB.out.cell (World.block_lt_of_cell? w _ hw363_7)).trans hw363_7), ((HB.out.cell (World.block_lt_of_cell? w _ hw363_8)).trans hw363_8), ((HB.out.cell (World.block_lt_of_cell? w _ hw363_9)).trans hw363_9), ((HB.out.cell (World.block_lt_of_cell? w _ hw363_10)).trans hw363_10), ((HB.out.cell (World.block_lt_of_cell? w _ hw363_11)).trans hw363_11), ((HB.out.cell (World.block_lt_of_cell? w _ hw364_0)).trans hw364_0), ((HB.out.cell (World.block_lt_of_cell? w _ hw364_1)).trans hw364_1), ((HB.out.cell (World.block_lt_of_cell? w _ hw364_2)).trans hw364_2), ((HB.out.cell (World.block_lt_of_cell? w _ hw364_3)).trans hw364_3), ((HB.out.cell (World.block_lt_of_cell? w _ hw364_4)).trans hw364_4), ((HB.out.cell (World.block_lt_of_cell? w _ hw364_5)).trans hw364_5), ((HB.out.cell (World.block_lt_of_cell? w _ hw364_6)).trans hw364_6), ((HB.out.cell (World.block_lt_of_cell? w _ hw364_7)).trans hw364_7), ((HB.out.cell (World.block_lt_of_cell? w _ hw364_8)).trans hw364_8)⟩ (fun hHeld => ?_)
               clear hK K
               refine norm_ (a' := ?_) ?_ ?_
               rotate_left
               ·
                show Act.put _ (some 62) _ = _
                simp only [Act.put, List.setIfInBounds_toArray, List.set_cons_zero, List.set_cons_succ, i64_w, i32_w]
                rfl
               refine pu 33 63 (bsq 34 1) ?_
               refine pu 34 64 (bsq 35 0) ?_
               refine done_ (done_of HT_.out (by kernel_rfl)) ?_
               try go_wp2
               go_meet
               case rel => exact ⟨_, (!t365), (by first | rfl | (simp; done) | (simp [*]; done)), H', ⟨by have := HJ3.out; have := HK2.out; first | omega | exact Nat.le_refl _⟩, ⟨bg BK356.out⟩, ⟨bs HB.out⟩⟩
              ·
               rw [if_neg c35] at H
               exact absurd H (by simp)
             ·
              rw [if_neg c34] at H
              exact absurd H (by simp)
            ·
             rw [if_neg c33] at H
             exact absurd H (by simp)
        case rest =>
         clear HC16
         try clear c2
         try clear p2
         try clear c3
         try clear p3
         try clear q3
         try clear hx3
         try clear c5
         try clear c21
         try clear c21b0
         try clear c23
         try clear c24
         try clear c27
         try clear c28
         try clear c29
         try clear c33
         try clear c33b0
         try clear c34
         try clear c34b0
         try clear c35
         try clear c35b0
         try clear p36
         try clear q36
         try clear hx36
         try clear hx363_0
         try clear hx363_1
         try clear hx363_10
         try clear hx363_11
         try clear hx363_2
         try clear hx363_3
         try clear hx363_4
         try clear hx363_5
         try clear hx363_6
         try clear hx363_7
         try clear hx363_8
         try clear hx363_9
         try clear hx364_0
         try clear hx364_1
         try clear hx364_2
         try clear hx364_3
         try clear hx364_4
         try clear hx364_5
         try clear hx364_6
         try clear hx364_7
         try clear hx364_8
         try clear p363
         try clear p364
         try clear q363
         try clear q364
         obtain ⟨kq, x64_15, rfl, HA, HJ15, BK356, HB⟩ := hcut
         cases kq with
         | zero => exact absurd HA.out (by simp [signalbenchref47_Matches.j2])
         | succ kj15 =>
          have H := HA.out
          clear HA
          simp only [signalbenchref47_Matches.j2] at H
          by_cases c39 : x64_15 = true
          ·
           subst c39
           have H1 : (some false) = some r := by rw [if_pos rfl] at H; exact H
           clear H
           have H := H1
           clear H1
           obtain rfl := Option.some.inj H
           go_wp2
           go_ret
           exact ⟨by first | rfl | (simp [errW_none, errW_some] <;> rfl) | (simp [*, errW_none, errW_some] <;> rfl), bs HB.out⟩
          ·
           replace c39 := Bool.eq_false_iff.mpr c39
           subst c39
           have H1 : (if x7_2 > 0 then (if 0 ≤ (wrap64 (x7_2 - 1)) then (if (wrap64 (x7_2 - 1)) < (l2.length : Int) then ((signalbenchref47_follows.f kj15 l0_0 l1 x7_2 (rd l2 (wrap64 (x7_2 - 1))) (rd l2 x7_2)).bind fun t367 => (if t367 = true then (signalbenchref47_Matches.l0 kj15 l1 l2 (wrap64 (x7_2 + 1)) l0_0) else (some false))) else (none)) else (none)) else (signalbenchref47_Matches.l0 kj15 l1 l2 (wrap64 (x7_2 + 1)) l0_0)) = some r := by rw [if_neg (show ¬ (false = true) by decide)] at H; exact H
           clear H
           have H := H1
           clear H1
           by_cases c40 : x7_2 > 0
           ·
            rw [if_pos c40] at H
            have c40b0 : decide (0 < x7_2) = true := decide_eq_true c40
            clear c40
            obtain ⟨ji41, hji41⟩ : ∃ j_ : Int, (wrap64 (x7_2 - 1)) = j_ := ⟨_, rfl⟩
            replace H : (if 0 ≤ (ji41) then (if (ji41) < (l2.length : Int) then ((signalbenchref47_follows.f kj15 l0_0 l1 x7_2 (rd l2 (ji41)) (rd l2 x7_2)).bind fun t367 => (if t367 = true then (signalbenchref47_Matches.l0 kj15 l1 l2 (wrap64 (x7_2 + 1)) l0_0) else (some false))) else (none)) else (none)) = some r := by first | (rw [hji41] at H; exact H) | (simp only [hji41] at H ⊢; exact H)
            have hji41w : (IntKind.i64.wrap (x7_2 - 1)) = ji41 := (i64_w _).trans hji41
            by_cases c42 : 0 ≤ (ji41)
            ·
             rw [if_pos c42] at H
             have c42b0 : decide (0 ≤ (ji41)) = true := decide_eq_true c42
             clear c42
             by_cases c43 : (ji41) < (l2.length : Int)
             ·
              rw [if_pos c43] at H
              have c43b0 : decide ((ji41) < (l2.length : Int)) = true := decide_eq_true c43
              clear c43
              replace H := Option.bind_eq_some_iff.mp H
              obtain ⟨t367, A440, H⟩ := H
              replace H : (if t367 = true then (signalbenchref47_Matches.l0 kj15 l1 l2 (wrap64 (x7_2 + 1)) l0_0) else (some false)) = some r := H
              have A44 := Aside0.mk A440
              clear A440
              by_cases c45 : t367 = true
              ·
               subst c45
               have H1 : (signalbenchref47_Matches.l0 kj15 l1 l2 (wrap64 (x7_2 + 1)) l0_0) = some r := by rw [if_pos rfl] at H; exact H
               clear H
               have H := H1
               clear H1
               have H' := Aside0.mk H
               clear H
               try go_wp2
               have n0_ := Aside0.mk (blk_drew BK356.out)
               have n1_ := Aside0.mk (below_drew1 HB.out)
               clear BK356
               clear HB
               have BK356 := n0_
               have HB := n1_
               clear n0_ n1_
               have p366 : 0 ≤ ((ji41) : Int) := of_decide_eq_true (by first | (with_reducible assumption) | assumption)
               have q366 : (ji41) < (l2.length : Int) := of_decide_eq_true (by first | (with_reducible assumption) | assumption)
               obtain ⟨ad366, e366, hx366_0⟩ := Kd.at_int HR2.out (ji41) p366 q366
               have hw366_0 := hx366_0
               obtain rfl : ad358 = ad366 := (by injection e366)
               replace hx366_0 := pw_cell_below HB.out hx366_0
               replace p366 := eq_true p366
               replace q366 := eq_true q366
               refine start_ (n := 15) (S := fun w' => w'.cell? ⟨gb356, 0, none⟩ = some (.slice A0_0 l0_0.length c0_0) ∧ w'.cell? (ad358.add ((ji41)).toNat) = some (.int .i64 (rd l2 (ji41)))) (ds := []) (bsq 0 15) (by kernel_rfl) rfl rfl ⟨(blk_cell BK356.out 0).trans rfl, ((HB.out.cell (World.block_lt_of_cell? w _ hw366_0)).trans hw366_0)⟩ (fun hHeld => ?_); refine with_tabW signalbenchref47_Matches.tab9 signalbenchref47_Matches.bits9 (fun HT_ HW_ => ?_)
               generalize wc.drew = w46 at BK356 HB hx366_0 hHeld ⊢
               refine pu 0 65 (bsq 1 14) ?_
               refine pu 1 66 (bsq 2 13) ?_
               refine pu 2 67 (bsq 3 12) ?_
               refine pu 4 69 (bls [3, 1, 1, 10]) ?_
               refine pu 5 70 (bls [3, 1, 2, 9]) ?_
               refine pu 6 71 (bls [3, 1, 3, 8]) ?_
               refine pu 7 72 (bls [3, 1, 4, 7]) ?_
               refine pu 8 73 (bls [3, 1, 5, 6]) ?_
               refine pu 9 74 (bls [3, 1, 6, 5]) ?_
               refine pu 11 76 (bls [3, 1, 6, 1, 1, 3]) ?_
               refine tk 3 68 (bls [10, 1, 1, 3]) hHeld ?_ (he := by rintro w' ⟨s0, s1⟩; go_simp; with_reducible rfl)
               refine tk 10 75 (bsq 12 3) hHeld ?_ (he := by rintro w' ⟨s0, s1⟩; go_simp; with_reducible rfl)
               refine one_ (i := 12) (N := some 77) (bsq 13 2) rfl rfl (one_of HT_.out (by kernel_rfl)) (by decide) (fun K hK => ?_)
               refine goes_ Try.func60 (by kernel_rfl) rfl #[.agg #[.slice A0_0 l0_0.length c0_0], .slice A1 l1.length c1, .int .i64 x7_2, .int .i64 (rd l2 (ji41)), .int .i64 (rd l2 x7_2)] (by rfl) rfl rfl (by (try simp only [List.map_toArray, List.map_cons, List.map_nil]); first | done | (simp only [hji41]; rfl) | rfl | (simp only [List.length_drop, List.length_take]; rfl)) ?_
               with_reducible refine (signalbenchref47_follows.calls kj15 _ _ l0_0 _ _ l1 x7_2 (rd l2 (ji41)) (rd l2 x7_2) true _ ?side1 ?side2 ?side3 ?side4 A44.out).mono ?_
               (case side1 => repeat (first | exact (Kd.C_below HR0_0.out HB.out) | (with_reducible refine Kd.C_alloc ?_ _) | (with_reducible refine Kd.C_drewN ?_ _) | (with_reducible refine Kd.C_drew ?_)))
               (case side2 => exact HC0_0.out)
               (case side3 => repeat (first | exact (Kd.C_below HR1.out HB.out) | (with_reducible refine Kd.C_alloc ?_ _) | (with_reducible refine Kd.C_drewN ?_ _) | (with_reducible refine Kd.C_drew ?_)))
               (case side4 => exact HC1.out)
               rintro e w47 ⟨rfl, hb⟩
               refine ⟨_, rfl, ?_⟩
               have n0_ := Aside0.mk (blk_below (bg BK356.out) hb)
               have n1_ := Aside0.mk (below_step (bs HB.out) hb)
               clear BK356
               clear HB
               have BK356 := n0_
               have HB := n1_
               clear n0_ n1_
               (try clear hb)
               (try clear hb2)
               (try clear hk)
               (try clear hi)
               refine hK.out _ _ ⟨(blk_cell BK356.out 0).trans rfl, ((HB.out.cell (World.block_lt_of_cell? w _ hw366_0)).trans hw366_0)⟩ (fun hHeld => ?_)
               clear hK K
               refine norm_ (a' := ?_) ?_ ?_
               rotate_left
               ·
                show Act.put _ (some 77) _ = _
                simp only [Act.put, List.setIfInBounds_toArray, List.set_cons_zero, List.set_cons_succ, i64_w, i32_w]
                rfl
               refine pu 13 78 (bsq 14 1) ?_
               refine pu 14 79 (bsq 15 0) ?_
               refine done_ (done_of HT_.out (by kernel_rfl)) ?_
               try go_wp2
               go_roundg kj15
               case measure => have := HJ3.out; have := HK2.out; have := HJ15.out; omega
               case rel => exact ⟨(wrap64 (x7_2 + 1)), (by first | rfl | (simp; done) | (simp [*]; done)), H', ⟨by have := HJ3.out; have := HK2.out; have := HJ15.out; omega⟩, ⟨bg BK356.out⟩, ⟨bs HB.out⟩⟩
              ·
               replace c45 := Bool.eq_false_iff.mpr c45
               subst c45
               have H1 : (some false) = some r := by rw [if_neg (show ¬ (false = true) by decide)] at H; exact H
               clear H
               have H := H1
               clear H1
               obtain rfl := Option.some.inj H
               try go_wp2
               have n0_ := Aside0.mk (blk_drew BK356.out)
               have n1_ := Aside0.mk (below_drew1 HB.out)
               clear BK356
               clear HB
               have BK356 := n0_
               have HB := n1_
               clear n0_ n1_
               have p366 : 0 ≤ ((ji41) : Int) := of_decide_eq_true (by first | (with_reducible assumption) | assumption)
               have q366 : (ji41) < (l2.length : Int) := of_decide_eq_true (by first | (with_reducible assumption) | assumption)
               obtain ⟨ad366, e366, hx366_0⟩ := Kd.at_int HR2.out (ji41) p366 q366
               have hw366_0 := hx366_0
               obtain rfl : ad358 = ad366 := (by injection e366)
               replace hx366_0 := pw_cell_below HB.out hx366_0
               replace p366 := eq_true p366
               replace q366 := eq_true q366
               refine start_ (n := 15) (S := fun w' => w'.cell? ⟨gb356, 0, none⟩ = some (.slice A0_0 l0_0.length c0_0) ∧ w'.cell? (ad358.add ((ji41)).toNat) = some (.int .i64 (rd l2 (ji41)))) (ds := []) (bsq 0 15) (by kernel_rfl) rfl rfl ⟨(blk_cell BK356.out 0).trans rfl, ((HB.out.cell (World.block_lt_of_cell? w _ hw366_0)).trans hw366_0)⟩ (fun hHeld => ?_); refine with_tabW signalbenchref47_Matches.tab9 signalbenchref47_Matches.bits9 (fun HT_ HW_ => ?_)
               generalize wc.drew = w48 at BK356 HB hx366_0 hHeld ⊢
               refine pu 0 65 (bsq 1 14) ?_
               refine pu 1 66 (bsq 2 13) ?_
               refine pu 2 67 (bsq 3 12) ?_
               refine pu 4 69 (bls [3, 1, 1, 10]) ?_
               refine pu 5 70 (bls [3, 1, 2, 9]) ?_
               refine pu 6 71 (bls [3, 1, 3, 8]) ?_
               refine pu 7 72 (bls [3, 1, 4, 7]) ?_
               refine pu 8 73 (bls [3, 1, 5, 6]) ?_
               refine pu 9 74 (bls [3, 1, 6, 5]) ?_
               refine pu 11 76 (bls [3, 1, 6, 1, 1, 3]) ?_
               refine tk 3 68 (bls [10, 1, 1, 3]) hHeld ?_ (he := by rintro w' ⟨s0, s1⟩; go_simp; with_reducible rfl)
               refine tk 10 75 (bsq 12 3) hHeld ?_ (he := by rintro w' ⟨s0, s1⟩; go_simp; with_reducible rfl)
               refine one_ (i := 12) (N := some 77) (bsq 13 2) rfl rfl (one_of HT_.out (by kernel_rfl)) (by decide) (fun K hK => ?_)
               refine goes_ Try.func60 (by kernel_rfl) rfl #[.agg #[.slice A0_0 l0_0.length c0_0], .slice A1 l1.length c1, .int .i64 x7_2, .int .i64 (rd l2 (ji41)), .int .i64 (rd l2 x7_2)] (by rfl) rfl rfl (by (try simp only [List.map_toArray, List.map_cons, List.map_nil]); first | done | (simp only [hji41]; rfl) | rfl | (simp only [List.length_drop, List.length_take]; rfl)) ?_
               with_reducible refine (signalbenchref47_follows.calls kj15 _ _ l0_0 _ _ l1 x7_2 (rd l2 (ji41)) (rd l2 x7_2) false _ ?side1 ?side2 ?side3 ?side4 A44.out).mono ?_
               (case side1 => repeat (first | exact (Kd.C_below HR0_0.out HB.out) | (with_reducible refine Kd.C_alloc ?_ _) | (with_reducible refine Kd.C_drewN ?_ _) | (with_reducible refine Kd.C_drew ?_)))
               (case side2 => exact HC0_0.out)
               (case side3 => repeat (first | exact (Kd.C_below HR1.out HB.out) | (with_reducible refine Kd.C_alloc ?_ _) | (with_reducible refine Kd.C_drewN ?_ _) | (with_reducible refine Kd.C_drew ?_)))
               (case side4 => exact HC1.out)
               rintro e w49 ⟨rfl, hb⟩
               refine ⟨_, rfl, ?_⟩
               have n0_ := Aside0.mk (blk_below (bg BK356.out) hb)
               have n1_ := Aside0.mk (below_step (bs HB.out) hb)
               clear BK356
               clear HB
               have BK356 := n0_
               have HB := n1_
               clear n0_ n1_
               (try clear hb)
               (try clear hb2)
               (try clear hk)
               (try clear hi)
               refine hK.out _ _ ⟨(blk_cell BK356.out 0).trans rfl, ((HB.out.cell (World.block_lt_of_cell? w _ hw366_0)).trans hw366_0)⟩ (fun hHeld => ?_)
               clear hK K
               refine norm_ (a' := ?_) ?_ ?_
               rotate_left
               ·
                show Act.put _ (some 77) _ = _
                simp only [Act.put, List.setIfInBounds_toArray, List.set_cons_zero, List.set_cons_succ, i64_w, i32_w]
                rfl
               refine pu 13 78 (bsq 14 1) ?_
               refine pu 14 79 (bsq 15 0) ?_
               refine done_ (done_of HT_.out (by kernel_rfl)) ?_
               try go_wp2
               go_ret
               exact ⟨by first | rfl | (simp [errW_none, errW_some] <;> rfl) | (simp only [← hji41]; first | rfl | (simp [errW_none, errW_some] <;> rfl)) | (simp [*, errW_none, errW_some] <;> rfl), bs HB.out⟩
             ·
              rw [if_neg c43] at H
              exact absurd H (by simp)
            ·
             rw [if_neg c42] at H
             exact absurd H (by simp)
           ·
            rw [if_neg c40] at H
            have c40b0 : decide (0 < x7_2) = false := decide_eq_false c40
            clear c40
            have H' := Aside0.mk H
            clear H
            try go_wp2
            have n0_ := Aside0.mk (blk_drew BK356.out)
            have n1_ := Aside0.mk (below_drew1 HB.out)
            clear BK356
            clear HB
            have BK356 := n0_
            have HB := n1_
            clear n0_ n1_
            refine start_ (n := 15) (S := fun w' => True) (ds := []) (bsq 0 15) (by kernel_rfl) rfl rfl trivial (fun hHeld => ?_); refine with_tabW signalbenchref47_Matches.tab9 signalbenchref47_Matches.bits9 (fun HT_ HW_ => ?_)
            generalize wc.drew = w50 at BK356 HB hHeld ⊢
            refine pu 0 65 (bsq 1 14) ?_
            refine pu 1 66 (bsq 2 13) ?_
            refine pu 2 67 (bsq 3 12) ?_
            refine un 3 68 (bsq 4 11) ?_
            refine un 4 69 (bsq 5 10) ?_
            refine un 5 70 (bsq 6 9) ?_
            refine un 6 71 (bsq 7 8) ?_
            refine un 7 72 (bsq 8 7) ?_
            refine un 8 73 (bsq 9 6) ?_
            refine un 9 74 (bsq 10 5) ?_
            refine un 10 75 (bsq 11 4) ?_
            refine un 11 76 (bsq 12 3) ?_
            refine un 12 77 (bsq 13 2) ?_
            refine un 13 78 (bsq 14 1) ?_
            refine pu 14 79 (bsq 15 0) ?_
            refine done_ (done_of HT_.out (by kernel_rfl)) ?_
            try go_wp2
            go_roundg kj15
            case measure => have := HJ3.out; have := HK2.out; have := HJ15.out; omega
            case rel => exact ⟨(wrap64 (x7_2 + 1)), (by first | rfl | (simp; done) | (simp [*]; done)), H', ⟨by have := HJ3.out; have := HK2.out; have := HJ15.out; omega⟩, ⟨bg BK356.out⟩, ⟨bs HB.out⟩⟩
       ·
        rw [if_neg c15] at H
        exact absurd H (by simp)
      ·
       rw [if_neg c14] at H
       have c14b0 : decide (x7_2 < (l2.length : Int)) = false := decide_eq_false c14
       clear c14
       obtain rfl := Option.some.inj H
       go_wp2
       go_ret
       exact ⟨by first | rfl | (simp [errW_none, errW_some] <;> rfl) | (simp [*, errW_none, errW_some] <;> rfl), bs HB.out⟩

end Go.Proofs.Ytgdjiphljadlcaa.K
