-- Printed by wip/hprint.py (this project's own driver of the kit's print) out of the translation; Lean checks it.
import Derived.Test.YtgdjiphljadlcaaK0
import Derived.Test.YtgdjiphljadlcaaK4
import Derived.Test.YtgdjiphljadlcaaK8
import Derived.Test.YtgdjiphljadlcaaK9
namespace Go.Proofs.Ytgdjiphljadlcaa.K
open Go.RowKit Go.Proofs.YtgdjiphljadlcaaW.PrintWords Go.Proofs.YtgdjiphljadlcaaW.PrintLast Go.Proofs.YtgdjiphljadlcaaW.PrintMore
attribute [local go_sem] max2_int min2_int max_two min_two max_three min_three max_four min_four   -- for this text's walks alone
set_option linter.unusedVariables false
set_option linter.unusedSimpArgs false

/-! ### search_Matches: function 27 -/
mutual
def search_Matches.j0 : Nat → List (S46) → List Int → Bool → List (S50) → Option (Bool)
 | 0, _, _, _, _ => none
 | k + 1, x1, x2, x19, x133000 => if x19 = true then (some false) else (search_Matches.l0 k x1 x2 x2 (x2.length : Int) 0 x133000)
def search_Matches.l0 : Nat → List (S46) → List Int → List Int → Int → Int → List (S50) → Option (Bool)
 | 0, _, _, _, _, _, _ => none
 | k + 1, x1, x2, x20, x21, x22, x133000 => if x22 < x21 then (if 0 ≤ x22 then (if x22 < (x20.length : Int) then (if (rd x20 x22) < 0 then (search_Matches.j2 k x1 x2 x22 (rd x20 x22) x20 x21 x22 true x133000) else (if (rd x20 x22) ≥ (x1.length : Int) then (search_Matches.j2 k x1 x2 x22 (rd x20 x22) x20 x21 x22 true x133000) else (if x22 < (x133000.length : Int) then (if 0 ≤ (rd x20 x22) then (if (rd x20 x22) < (x1.length : Int) then ((search_satisfies.f k ((rd_T50 x133000 x22).f0.f0) ((rd_T50 x133000 x22).f0.f1) ((rd_T50 x133000 x22).f0.f2) ((rd_T50 x133000 x22).f0.f3) ((rd_T50 x133000 x22).f0.f4) ((rd_T46 x1 (rd x20 x22)).f0) ((rd_T46 x1 (rd x20 x22)).f1) ((rd_T46 x1 (rd x20 x22)).f2.f0) ((rd_T46 x1 (rd x20 x22)).f2.f1) ((rd_T46 x1 (rd x20 x22)).f2.f2) ((rd_T46 x1 (rd x20 x22)).f2.f3) ((rd_T46 x1 (rd x20 x22)).f2.f4) ((rd_T46 x1 (rd x20 x22)).f2.f5) ((rd_T46 x1 (rd x20 x22)).f2.f6)).bind fun t137 => (search_Matches.j2 k x1 x2 x22 (rd x20 x22) x20 x21 x22 (!t137) x133000)) else (none)) else (none)) else (none)))) else (none)) else (none)) else (some true)
def search_Matches.j2 : Nat → List (S46) → List Int → Int → Int → List Int → Int → Int → Bool → List (S50) → Option (Bool)
 | 0, _, _, _, _, _, _, _, _, _ => none
 | k + 1, x1, x2, x7, x8, x20, x21, x22, x48, x133000 => if x48 = true then (some false) else (if x7 > 0 then (if 0 ≤ x7 then (if x7 < (x133000.length : Int) then (if 0 ≤ (wrap64 (x7 - 1)) then (if (wrap64 (x7 - 1)) < (x2.length : Int) then ((search_follows.f k ((rd_T50 x133000 x7).f0.f0) ((rd_T50 x133000 x7).f0.f1) ((rd_T50 x133000 x7).f0.f2) ((rd_T50 x133000 x7).f0.f3) ((rd_T50 x133000 x7).f0.f4) ((rd_T50 x133000 x7).f1) ((rd_T50 x133000 x7).f2) ((rd_T50 x133000 x7).f3.f0) ((rd_T50 x133000 x7).f3.f1) ((rd_T50 x133000 x7).f3.f2) ((rd_T50 x133000 x7).f3.f3) ((rd_T50 x133000 x7).f3.f4) x1 (rd x2 (wrap64 (x7 - 1))) x8).bind fun t140 => (if t140 = true then (search_Matches.l0 k x1 x2 x20 x21 (wrap64 (x22 + 1)) x133000) else (some false))) else (none)) else (none)) else (none)) else (none)) else (search_Matches.l0 k x1 x2 x20 x21 (wrap64 (x22 + 1)) x133000))
end
def search_Matches.f (k : Nat) (l0_0 : List (S50)) (l1 : List (S46)) (l2 : List Int) : Option (Bool) := (trigauto_Check.f k l0_0).bind fun t133 => (if t133 = 0 then (search_Matches.j0 k l1 l2 ((l2.length : Int) != (l0_0.length : Int)) l0_0) else (search_Matches.j0 k l1 l2 true l0_0))
def search_Matches.T6 : Bool × List (List Nat × List Nat) := (true, [([], []), ([0], [0]), ([1], [1]), ([2], [2]), ([2], [2]), ([4, 2], [2, 4]), ([3, 5, 2], [2, 3, 5]), ([2, 6], [2, 6]), ([7, 2], [7]), ([8], [8]), ([9, 8], [8, 9]), ([8], [8]), ([10, 11, 8], [8, 10, 11]), ([12, 8], [8, 12]), ([13, 8], [8, 13]), ([8], [8]), ([8], [8]), ([15, 16, 8], [8, 15, 16]), ([17, 8], [8, 17]), ([14, 18, 8, 8], [8, 14, 18]), ([19, 8], [8, 19]), ([8, 20], [8, 20])])
def search_Matches.B6 : List Nat := [0, 1, 3, 7, 7, 23, 63, 127, 255, 511, 1023, 511, 4095, 8191, 16383, 511, 511, 98815, 229887, 524287, 1048575, 2097151]
theorem search_Matches.tab6 : rtab .any (opsOf Try.f27 6) = search_Matches.T6 := by kernel_rfl
theorem search_Matches.bits6 : waitsOk search_Matches.T6.2 search_Matches.B6 = true := by kernel_rfl
def search_Matches.T8 : Bool × List (List Nat × List Nat) := (true, [([], []), ([0], [0]), ([1], [1]), ([2], [2]), ([3, 2], [2, 3]), ([2], [2]), ([4, 5, 2], [2, 4, 5]), ([6, 2], [2, 6]), ([2], [2]), ([2], [2]), ([2], [2]), ([10, 2], [2, 10]), ([9, 11, 2], [2, 9, 11]), ([12, 2], [2, 12]), ([2], [2]), ([7, 8, 13, 14, 2, 2], [2, 7, 8, 13, 14]), ([15, 2], [2, 15]), ([2, 16], [2, 16])])
def search_Matches.B8 : List Nat := [0, 1, 3, 7, 15, 7, 63, 127, 7, 7, 7, 1031, 3591, 7687, 7, 32767, 65535, 131071]
theorem search_Matches.tab8 : rtab .any (opsOf Try.f27 8) = search_Matches.T8 := by kernel_rfl
theorem search_Matches.bits8 : waitsOk search_Matches.T8.2 search_Matches.B8 = true := by kernel_rfl
set_option maxHeartbeats 8000000 in
set_option maxRecDepth 100000 in
theorem search_Matches.calls (k : Nat) (A0_0 : Option Addr) (c0_0 : Nat) (l0_0 : List (S50)) (A1 : Option Addr) (c1 : Nat) (l1 : List (S46)) (A2 : Option Addr) (c2 : Nat) (l2 : List Int) (r : Bool) (w : World) (hr0_0 : Kd.C k50 w A0_0 l0_0.length l0_0) (hc0_0 : l0_0.length ≤ c0_0) (hr1 : Kd.C k46 w A1 l1.length l1) (hc1 : l1.length ≤ c1) (hr2 : Kd.C (Kd.int .i64) w A2 l2.length l2) (hc2 : l2.length ≤ c2) (h : search_Matches.f k l0_0 l1 l2 = some r) :
  Calls Try.prog 27 #[.agg #[.slice A0_0 l0_0.length c0_0], .slice A1 l1.length c1, .slice A2 l2.length c2] w fun e w' => e = .returned (.bool r) ∧ Below w.heap.size w w' := by
 have hu31 := Try.underlying31
 have hu42 := Try.underlying42
 have hu46 := Try.underlying46
 have hu50 := Try.underlying50
 have HR0_0 := Aside0.mk hr0_0
 have HC0_0 := Aside0.mk hc0_0
 clear hr0_0 hc0_0
 have HR1 := Aside0.mk hr1
 have HC1 := Aside0.mk hc1
 clear hr1 hc1
 have HR2 := Aside0.mk hr2
 have HC2 := Aside0.mk hc2
 clear hr2 hc2
 have HB := Aside0.mk (Below.refl w.heap.size w)
 have H : ((trigauto_Check.f k l0_0).bind fun t133 => (if t133 = 0 then (search_Matches.j0 k l1 l2 ((l2.length : Int) != (l0_0.length : Int)) l0_0) else (search_Matches.j0 k l1 l2 true l0_0))) = some r := h
 clear h
 have HC4 := Aside0.mk H
 clear H
 go_enter Try.func27, Try.ntmps27
 go_upto_region 1 with (first | ((with_reducible refine gate_dst (N := 3) rfl ?_); (try (refine gate_guard (by rfl) ?_; dsimp only)); refine box_event ?hg (N := 3) ?hd (cs := #[.slice A0_0 l0_0.length c0_0]) (t := 31) ?hr ?_; (case hd => rfl); (case hg => rfl); (case hr => first | (go_simp; done) | (go_simp; rfl)); intro gb132 hg w5 hbox hb; have n0_ := Aside0.mk (below_step (bs HB.out) hb); have n1_ := Aside0.mk (hbox); have n2_ := Aside0.mk ((by rw [hg]; exact (below_size (bs HB.out)) : w.heap.size ≤ gb132)); have n3_ := n2_; clear HB; have HB := n0_; have BK132 := n1_; have GW132 := n2_; have GE132 := n3_; clear n0_ n1_ n2_ n3_; clear hb hbox hg))
 (try simp only [Act.put, List.setIfInBounds_toArray, List.set_cons_zero, List.set_cons_succ])
 go_cut [19] (fun v19 wc => ∃ (kq : Nat) (x19_3 : Bool), v19 = .bool x19_3 ∧ Aside0 (search_Matches.j0 kq l1 l2 x19_3 l0_0 = some r) ∧ Aside0 (kq ≤ k) ∧ Aside0 (wc.heap[gb132]? = some (.cells #[(.slice A0_0 l0_0.length c0_0)] 31 (0, 0))) ∧ Aside0 (Below w.heap.size w wc))
 case first =>
  have H := HC4.out
  clear HC4
  replace H := Option.bind_eq_some_iff.mp H
  obtain ⟨t133, A60, H⟩ := H
  replace H : (if t133 = 0 then (search_Matches.j0 k l1 l2 ((l2.length : Int) != (l0_0.length : Int)) l0_0) else (search_Matches.j0 k l1 l2 true l0_0)) = some r := H
  have A6 := Aside0.mk A60
  clear A60
  by_cases c7 : t133 = 0
  ·
   rw [if_pos c7] at H
   have c7b0 : (t133 == 0) = true := beq_iff_eq.mpr c7
   have c7b1 : (t133 != 0) = false := bne_eq_false_iff_eq.mpr c7
   clear c7
   (first | rw [c7b0] | (simp only [i64_w, i32_w]; rw [c7b0]) | skip)
   have H' := Aside0.mk H
   clear H
   have hcz8_0 : w5.cell? ⟨gb132, 0, none⟩ = some (.slice A0_0 l0_0.length c0_0) := (blk_cell BK132.out 0).trans rfl
   have hfz8_0 := blk_frozen BK132.out 0
   go_wp2_with (first | ((with_reducible refine gate_callee (f := 20) rfl ?_); refine goesL_ (some 10) rfl rfl Try.func20 (by kernel_rfl) rfl #[.agg #[.slice A0_0 l0_0.length c0_0]] rfl (by (try simp only [List.map_toArray, List.map_cons, List.map_nil]); first | done | rfl | (simp only [List.length_drop, List.length_take]; rfl)) ?_; (with_reducible refine (trigauto_Check.calls k _ _ l0_0 t133 _ ?side1 ?side2 A6.out).mono ?_); (case side1 => repeat (first | exact (Kd.C_below HR0_0.out HB.out) | (with_reducible refine Kd.C_alloc ?_ _) | (with_reducible refine Kd.C_drewN ?_ _) | (with_reducible refine Kd.C_drew ?_))); (case side2 => exact HC0_0.out); rintro e w9 ⟨rfl, hb⟩; refine ⟨_, rfl, ?_⟩; have n0_ := Aside0.mk (blk_below (bg BK132.out) hb); have n1_ := Aside0.mk (below_step (bs HB.out) hb); clear BK132; clear HB; have BK132 := n0_; have HB := n1_; clear n0_ n1_; (try clear hb); (try clear hb2); (try clear hk); (try clear hi); have hcz10_0 : w9.cell? ⟨gb132, 0, none⟩ = some (.slice A0_0 l0_0.length c0_0) := (blk_cell BK132.out 0).trans rfl; have hfz10_0 := blk_frozen BK132.out 0))
   go_meet
   case rel => exact ⟨_, (((l2.length : Int) != (l0_0.length : Int))), (by first | rfl | (simp; done) | (simp [*]; done)), H', ⟨by first | omega | exact Nat.le_refl _⟩, ⟨bg BK132.out⟩, ⟨bs HB.out⟩⟩
  ·
   rw [if_neg c7] at H
   have c7b0 : (t133 == 0) = false := beq_eq_false_iff_ne.mpr c7
   have c7b1 : (t133 != 0) = true := bne_iff_ne.mpr c7
   (first | rw [c7b0] | (simp only [i64_w, i32_w]; rw [c7b0]) | skip)
   have H' := Aside0.mk H
   clear H
   have hcz11_0 : w5.cell? ⟨gb132, 0, none⟩ = some (.slice A0_0 l0_0.length c0_0) := (blk_cell BK132.out 0).trans rfl
   have hfz11_0 := blk_frozen BK132.out 0
   go_wp2_with (first | ((with_reducible refine gate_callee (f := 20) rfl ?_); refine goesL_ (some 10) rfl rfl Try.func20 (by kernel_rfl) rfl #[.agg #[.slice A0_0 l0_0.length c0_0]] rfl (by (try simp only [List.map_toArray, List.map_cons, List.map_nil]); first | done | rfl | (simp only [List.length_drop, List.length_take]; rfl)) ?_; (with_reducible refine (trigauto_Check.calls k _ _ l0_0 t133 _ ?side1 ?side2 A6.out).mono ?_); (case side1 => repeat (first | exact (Kd.C_below HR0_0.out HB.out) | (with_reducible refine Kd.C_alloc ?_ _) | (with_reducible refine Kd.C_drewN ?_ _) | (with_reducible refine Kd.C_drew ?_))); (case side2 => exact HC0_0.out); rintro e w12 ⟨rfl, hb⟩; refine ⟨_, rfl, ?_⟩; have n0_ := Aside0.mk (blk_below (bg BK132.out) hb); have n1_ := Aside0.mk (below_step (bs HB.out) hb); clear BK132; clear HB; have BK132 := n0_; have HB := n1_; clear n0_ n1_; (try clear hb); (try clear hb2); (try clear hk); (try clear hi)))
   go_meet
   case rel => exact ⟨_, (true), (by first | rfl | (simp; done) | (simp [*]; done)), H', ⟨by first | omega | exact Nat.le_refl _⟩, ⟨bg BK132.out⟩, ⟨bs HB.out⟩⟩
 case rest =>
  clear HC4
  try clear c1
  try clear c2
  try clear p2
  try clear c7
  try clear c7b0
  try clear c7b1
  try clear hcz10_0
  try clear hcz11_0
  try clear hcz8_0
  try clear hfz10_0
  try clear hfz11_0
  try clear hfz8_0
  obtain ⟨kq, x19_3, rfl, HA, HJ3, BK132, HB⟩ := hcut
  cases kq with
  | zero => exact absurd HA.out (by simp [search_Matches.j0])
  | succ kj3 =>
   have H := HA.out
   clear HA
   simp only [search_Matches.j0] at H
   by_cases c13 : x19_3 = true
   ·
    subst c13
    have H1 : (some false) = some r := by rw [if_pos rfl] at H; exact H
    clear H
    have H := H1
    clear H1
    obtain rfl := Option.some.inj H
    go_wp2
    go_ret
    exact ⟨by first | rfl | (simp [errW_none, errW_some] <;> rfl) | (simp [*, errW_none, errW_some] <;> rfl), bs HB.out⟩
   ·
    replace c13 := Bool.eq_false_iff.mpr c13
    subst c13
    have H1 : (search_Matches.l0 kj3 l1 l2 l2 (l2.length : Int) 0 l0_0) = some r := by rw [if_neg (show ¬ (false = true) by decide)] at H; exact H
    clear H
    have H := H1
    clear H1
    have H' := Aside0.mk H
    clear H
    go_wp2
    go_loopg [22] kj3 (fun kq v22 w' => ∃ (x22_2 : Int), v22 = .int .i64 x22_2 ∧ Aside0 (search_Matches.l0 kq l1 l2 l2 (l2.length : Int) x22_2 l0_0 = some r) ∧ Aside0 (kq ≤ kj3) ∧ Aside0 (w'.heap[gb132]? = some (.cells #[(.slice A0_0 l0_0.length c0_0)] 31 (0, 0))) ∧ Aside0 (Below w.heap.size w w'))
    case atStart => exact ⟨(0), (by first | rfl | (simp; done) | (simp [*]; done)), H', ⟨Nat.le_refl _⟩, ⟨bg BK132.out⟩, ⟨bs HB.out⟩⟩
    case round =>
     clear H'
     try clear c1
     try clear c2
     try clear p2
     try clear c7
     try clear c7b0
     try clear c7b1
     try clear c13
     try clear hcz10_0
     try clear hcz11_0
     try clear hcz8_0
     try clear hfz10_0
     try clear hfz11_0
     try clear hfz8_0
     try clear p2
     obtain ⟨x22_2, rfl, HA, HK2, BK132, HB⟩ := hrel
     cases gk with
     | zero => exact absurd HA.out (by simp [search_Matches.l0])
     | succ k2 =>
      have H := HA.out
      clear HA
      simp only [search_Matches.l0] at H
      by_cases c14 : x22_2 < (l2.length : Int)
      ·
       rw [if_pos c14] at H
       have c14b0 : decide (x22_2 < (l2.length : Int)) = true := decide_eq_true c14
       clear c14
       by_cases c15 : 0 ≤ x22_2
       ·
        rw [if_pos c15] at H
        have c15b0 : decide (0 ≤ x22_2) = true := decide_eq_true c15
        clear c15
        by_cases c16 : x22_2 < (l2.length : Int)
        ·
         rw [if_pos c16] at H
         have c16b0 : decide (x22_2 < (l2.length : Int)) = true := decide_eq_true c16
         clear c16
         have HC17 := Aside0.mk H
         clear H
         have p134 : 0 ≤ (x22_2 : Int) := of_decide_eq_true (by first | (with_reducible assumption) | assumption)
         have q134 : x22_2 < (l2.length : Int) := of_decide_eq_true (by first | (with_reducible assumption) | assumption)
         obtain ⟨ad134, e134, hx134_0⟩ := Kd.at_int HR2.out x22_2 p134 q134
         cases e134
         replace hx134_0 := pw_cell_below HB.out hx134_0
         replace p134 := eq_true p134
         replace q134 := eq_true q134
         go_upto_region 6 with (fail)
         go_cut [48] (fun v48 wc => ∃ (kq : Nat) (x48_16 : Bool), v48 = .bool x48_16 ∧ Aside0 (search_Matches.j2 kq l1 l2 x22_2 (rd l2 x22_2) l2 (l2.length : Int) x22_2 x48_16 l0_0 = some r) ∧ Aside0 (kq ≤ k2) ∧ Aside0 (wc.heap[gb132]? = some (.cells #[(.slice A0_0 l0_0.length c0_0)] 31 (0, 0))) ∧ Aside0 (Below w.heap.size w wc))
         case first =>
          have H := HC17.out
          clear HC17
          by_cases c18 : (rd l2 x22_2) < 0
          ·
           rw [if_pos c18] at H
           have c18b0 : decide ((rd l2 x22_2) < 0) = true := decide_eq_true c18
           clear c18
           (first | rw [c18b0] | (simp only [i64_w, i32_w]; rw [c18b0]) | skip)
           have H' := Aside0.mk H
           clear H
           try go_wp2
           have n0_ := Aside0.mk (blk_drew BK132.out)
           have n1_ := Aside0.mk (below_drew1 HB.out)
           clear BK132
           clear HB
           have BK132 := n0_
           have HB := n1_
           clear n0_ n1_
           refine start_ (n := 22) (S := fun w' => True) (ds := []) (bsq 0 22) (by kernel_rfl) rfl rfl trivial (fun hHeld => ?_); refine with_tabW search_Matches.tab6 search_Matches.bits6 (fun HT_ HW_ => ?_)
           generalize wr.drew = w19 at BK132 HB hHeld ⊢
           refine pu 0 27 (bsq 1 21) ?_
           refine pu 1 28 (bsq 2 20) ?_
           refine pu 2 29 (bsq 3 19) ?_
           refine un 3 30 (bsq 4 18) ?_
           refine un 4 31 (bsq 5 17) ?_
           refine un 5 32 (bsq 6 16) ?_
           refine un 6 33 (bsq 7 15) ?_
           refine pu 7 34 (bsq 8 14) ?_
           refine pu 8 35 (bsq 9 13) ?_
           refine un 9 36 (bsq 10 12) ?_
           refine un 10 37 (bsq 11 11) ?_
           refine un 11 38 (bsq 12 10) ?_
           refine un 12 39 (bsq 13 9) ?_
           refine un 13 40 (bsq 14 8) ?_
           refine un 14 41 (bsq 15 7) ?_
           refine un 15 42 (bsq 16 6) ?_
           refine un 16 43 (bsq 17 5) ?_
           refine un 17 44 (bsq 18 4) ?_
           refine un 18 45 (bsq 19 3) ?_
           refine un 19 46 (bsq 20 2) ?_
           refine un 20 47 (bsq 21 1) ?_
           refine pu 21 48 (bsq 22 0) ?_
           refine done_ (done_of HT_.out (by kernel_rfl)) ?_
           try go_wp2
           go_meet
           case rel => exact ⟨_, (true), (by first | rfl | (simp; done) | (simp [*]; done)), H', ⟨by have := HJ3.out; have := HK2.out; first | omega | exact Nat.le_refl _⟩, ⟨bg BK132.out⟩, ⟨bs HB.out⟩⟩
          ·
           rw [if_neg c18] at H
           have c18b0 : decide ((rd l2 x22_2) < 0) = false := decide_eq_false c18
           clear c18
           (first | rw [c18b0] | (simp only [i64_w, i32_w]; rw [c18b0]) | skip)
           by_cases c20 : (rd l2 x22_2) ≥ (l1.length : Int)
           ·
            rw [if_pos c20] at H
            have c20b0 : decide ((l1.length : Int) ≤ (rd l2 x22_2)) = true := decide_eq_true c20
            clear c20
            have H' := Aside0.mk H
            clear H
            try go_wp2
            have n0_ := Aside0.mk (blk_drew BK132.out)
            have n1_ := Aside0.mk (below_drew1 HB.out)
            clear BK132
            clear HB
            have BK132 := n0_
            have HB := n1_
            clear n0_ n1_
            refine start_ (n := 22) (S := fun w' => True) (ds := []) (bsq 0 22) (by kernel_rfl) rfl rfl trivial (fun hHeld => ?_); refine with_tabW search_Matches.tab6 search_Matches.bits6 (fun HT_ HW_ => ?_)
            generalize wr.drew = w21 at BK132 HB hHeld ⊢
            refine pu 0 27 (bsq 1 21) ?_
            refine pu 1 28 (bsq 2 20) ?_
            refine pu 2 29 (bsq 3 19) ?_
            refine pu 3 30 (bsq 4 18) ?_
            refine pu 4 31 (bsq 5 17) ?_
            refine pu 5 32 (bsq 6 16) ?_
            refine pu 6 33 (bsq 7 15) ?_
            refine pu 7 34 (bsq 8 14) ?_
            refine pu 8 35 (bsq 9 13) ?_
            refine un 9 36 (bsq 10 12) ?_
            refine un 10 37 (bsq 11 11) ?_
            refine un 11 38 (bsq 12 10) ?_
            refine un 12 39 (bsq 13 9) ?_
            refine un 13 40 (bsq 14 8) ?_
            refine un 14 41 (bsq 15 7) ?_
            refine un 15 42 (bsq 16 6) ?_
            refine un 16 43 (bsq 17 5) ?_
            refine un 17 44 (bsq 18 4) ?_
            refine un 18 45 (bsq 19 3) ?_
            refine un 19 46 (bsq 20 2) ?_
            refine un 20 47 (bsq 21 1) ?_
            refine pu 21 48 (bsq 22 0) ?_
            refine done_ (done_of HT_.out (by kernel_rfl)) ?_
            try go_wp2
            go_meet
            case rel => exact ⟨_, (true), (by first | rfl | (simp; done) | (simp [*]; done)), H', ⟨by have := HJ3.out; have := HK2.out; first | omega | exact Nat.le_refl _⟩, ⟨bg BK132.out⟩, ⟨bs HB.out⟩⟩
           ·
            rw [if_neg c20] at H
            have c20b0 : decide ((l1.length : Int) ≤ (rd l2 x22_2)) = false := decide_eq_false c20
            clear c20
            by_cases c22 : x22_2 < (l0_0.length : Int)
            ·
             rw [if_pos c22] at H
             have c22b0 : decide (x22_2 < (l0_0.length : Int)) = true := decide_eq_true c22
             clear c22
             by_cases c23 : 0 ≤ (rd l2 x22_2)
             ·
              rw [if_pos c23] at H
              have c23b0 : decide (0 ≤ (rd l2 x22_2)) = true := decide_eq_true c23
              clear c23
              by_cases c24 : (rd l2 x22_2) < (l1.length : Int)
              ·
               rw [if_pos c24] at H
               have c24b0 : decide ((rd l2 x22_2) < (l1.length : Int)) = true := decide_eq_true c24
               clear c24
               replace H := Option.bind_eq_some_iff.mp H
               obtain ⟨t137, A250, H⟩ := H
               replace H : (search_Matches.j2 k2 l1 l2 x22_2 (rd l2 x22_2) l2 (l2.length : Int) x22_2 (!t137) l0_0) = some r := H
               have A25 := Aside0.mk A250
               clear A250
               have H' := Aside0.mk H
               clear H
               try go_wp2
               have n0_ := Aside0.mk (blk_drew BK132.out)
               have n1_ := Aside0.mk (below_drew1 HB.out)
               clear BK132
               clear HB
               have BK132 := n0_
               have HB := n1_
               clear n0_ n1_
               have p135 : 0 ≤ (x22_2 : Int) := of_decide_eq_true (by first | (with_reducible assumption) | assumption)
               have q135 : x22_2 < (l0_0.length : Int) := of_decide_eq_true (by first | (with_reducible assumption) | assumption)
               obtain ⟨ad135, e135, hx135_0, hx135_1, hx135_2, hx135_3, hx135_4, hx135_5, hx135_6, hx135_7, hx135_8, hx135_9, hx135_10, hx135_11⟩ := at_T50 HR0_0.out x22_2 p135 q135
               have hw135_11 := hx135_11
               have hw135_10 := hx135_10
               have hw135_9 := hx135_9
               have hw135_8 := hx135_8
               have hw135_7 := hx135_7
               have hw135_6 := hx135_6
               have hw135_5 := hx135_5
               have hw135_4 := hx135_4
               have hw135_3 := hx135_3
               have hw135_2 := hx135_2
               have hw135_1 := hx135_1
               have hw135_0 := hx135_0
               cases e135
               replace hx135_0 := pw_cell_below HB.out hx135_0
               replace hx135_1 := pw_cell_below HB.out hx135_1
               replace hx135_2 := pw_cell_below HB.out hx135_2
               replace hx135_3 := pw_cell_below HB.out hx135_3
               replace hx135_4 := pw_cell_below HB.out hx135_4
               replace hx135_5 := pw_cell_below HB.out hx135_5
               replace hx135_6 := pw_cell_below HB.out hx135_6
               replace hx135_7 := pw_cell_below HB.out hx135_7
               replace hx135_8 := pw_cell_below HB.out hx135_8
               replace hx135_9 := pw_cell_below HB.out hx135_9
               replace hx135_10 := pw_cell_below HB.out hx135_10
               replace hx135_11 := pw_cell_below HB.out hx135_11
               replace p135 := eq_true p135
               replace q135 := eq_true q135
               have p136 : 0 ≤ ((rd l2 x22_2) : Int) := of_decide_eq_true (by first | (with_reducible assumption) | assumption)
               have q136 : (rd l2 x22_2) < (l1.length : Int) := of_decide_eq_true (by first | (with_reducible assumption) | assumption)
               obtain ⟨ad136, e136, hx136_0, hx136_1, hx136_2, hx136_3, hx136_4, hx136_5, hx136_6, hx136_7, hx136_8⟩ := at_T46 HR1.out (rd l2 x22_2) p136 q136
               have hw136_8 := hx136_8
               have hw136_7 := hx136_7
               have hw136_6 := hx136_6
               have hw136_5 := hx136_5
               have hw136_4 := hx136_4
               have hw136_3 := hx136_3
               have hw136_2 := hx136_2
               have hw136_1 := hx136_1
               have hw136_0 := hx136_0
               cases e136
               replace hx136_0 := pw_cell_below HB.out hx136_0
               replace hx136_1 := pw_cell_below HB.out hx136_1
               replace hx136_2 := pw_cell_below HB.out hx136_2
               replace hx136_3 := pw_cell_below HB.out hx136_3
               replace hx136_4 := pw_cell_below HB.out hx136_4
               replace hx136_5 := pw_cell_below HB.out hx136_5
               replace hx136_6 := pw_cell_below HB.out hx136_6
               replace hx136_7 := pw_cell_below HB.out hx136_7
               replace hx136_8 := pw_cell_below HB.out hx136_8
               replace p136 := eq_true p136
               replace q136 := eq_true q136
               refine start_ (n := 22) (S := fun w' => w'.cell? ⟨gb132, 0, none⟩ = some (.slice (some ad135) l0_0.length c0_0) ∧ w'.cell? (ad135.add ((x22_2).toNat * 12)) = some (.int .i64 ((rd_T50 l0_0 x22_2).f0.f0)) ∧ w'.cell? ⟨(ad135.add ((x22_2).toNat * 12)).block, (ad135.add ((x22_2).toNat * 12)).off + 1, none⟩ = some (.int .i64 ((rd_T50 l0_0 x22_2).f0.f1)) ∧ w'.cell? ⟨(ad135.add ((x22_2).toNat * 12)).block, (ad135.add ((x22_2).toNat * 12)).off + 2, none⟩ = some (.int .i64 ((rd_T50 l0_0 x22_2).f0.f2)) ∧ w'.cell? ⟨(ad135.add ((x22_2).toNat * 12)).block, (ad135.add ((x22_2).toNat * 12)).off + 3, none⟩ = some (.int .i64 ((rd_T50 l0_0 x22_2).f0.f3)) ∧ w'.cell? ⟨(ad135.add ((x22_2).toNat * 12)).block, (ad135.add ((x22_2).toNat * 12)).off + 4, none⟩ = some (.int .i64 ((rd_T50 l0_0 x22_2).f0.f4)) ∧ w'.cell? ⟨(ad135.add ((x22_2).toNat * 12)).block, (ad135.add ((x22_2).toNat * 12)).off + 5, none⟩ = some (.int .i64 ((rd_T50 l0_0 x22_2).f1)) ∧ w'.cell? ⟨(ad135.add ((x22_2).toNat * 12)).block, (ad135.add ((x22_2).toNat * 12)).off + 6, none⟩ = some (.bool ((rd_T50 l0_0 x22_2).f2)) ∧ w'.cell? ⟨(ad135.add ((x22_2).toNat * 12)).block, (ad135.add ((x22_2).toNat * 12)).off + 7, none⟩ = some (.int .i64 ((rd_T50 l0_0 x22_2).f3.f0)) ∧ w'.cell? ⟨(ad135.add ((x22_2).toNat * 12)).block, (ad135.add ((x22_2).toNat * 12)).off + 8, none⟩ = some (.int .i64 ((rd_T50 l0_0 x22_2).f3.f1)) ∧ w'.cell? ⟨(ad135.add ((x22_2).toNat * 12)).block, (ad135.add ((x22_2).toNat * 12)).off + 9, none⟩ = some (.int .i64 ((rd_T50 l0_0 x22_2).f3.f2)) ∧ w'.cell? ⟨(ad135.add ((x22_2).toNat * 12)).block, (ad135.add ((x22_2).toNat * 12)).off + 10, none⟩ = some (.int .i64 ((rd_T50 l0_0 x22_2).f3.f3)) ∧ w'.cell? ⟨(ad135.add ((x22_2).toNat * 12)).block, (ad135.add ((x22_2).toNat * 12)).off + 11, none⟩ = some (.int .i64 ((rd_T50 l0_0 x22_2).f3.f4)) ∧ w'.cell? (ad136.add (((rd l2 x22_2)).toNat * 9)) = some (.int .i64 ((rd_T46 l1 (rd l2 x22_2)).f0)) ∧ w'.cell? ⟨(ad136.add (((rd l2 x22_2)).toNat * 9)).block, (ad136.add (((rd l2 x22_2)).toNat * 9)).off + 1, none⟩ = some (.int .i64 ((rd_T46 l1 (rd l2 x22_2)).f1)) ∧ w'.cell? ⟨(ad136.add (((rd l2 x22_2)).toNat * 9)).block, (ad136.add (((rd l2 x22_2)).toNat * 9)).off + 2, none⟩ = some (.int .i64 ((rd_T46 l1 (rd l2 x22_2)).f2.f0)) ∧ w'.cell? ⟨(ad136.add (((rd l2 x22_2)).toNat * 9)).block, (ad136.add (((rd l2 x22_2)).toNat * 9)).off + 3, none⟩ = some (.int .i64 ((rd_T46 l1 (rd l2 x22_2)).f2.f1)) ∧ w'.cell? ⟨(ad136.add (((rd l2 x22_2)).toNat * 9)).block, (ad136.add (((rd l2 x22_2)).toNat * 9)).off + 4, none⟩ = some (.int .i64 ((rd_T46 l1 (rd l2 x22_2)).f2.f2)) ∧ w'.cell? ⟨(ad136.add (((rd l2 x22_2)).toNat * 9)).block, (ad136.add (((rd l2 x22_2)).toNat * 9)).off + 5, none⟩ = some (.int .i64 ((rd_T46 l1 (rd l2 x22_2)).f2.f3)) ∧ w'.cell? ⟨(ad136.add (((rd l2 x22_2)).toNat * 9)).block, (ad136.add (((rd l2 x22_2)).toNat * 9)).off + 6, none⟩ = some (.int .i64 ((rd_T46 l1 (rd l2 x22_2)).f2.f4)) ∧ w'.cell? ⟨(ad136.add (((rd l2 x22_2)).toNat * 9)).block, (ad136.add (((rd l2 x22_2)).toNat * 9)).off + 7, none⟩ = some (.string ((rd_T46 l1 (rd l2 x22_2)).f2.f5)) ∧ w'.cell? ⟨(ad136.add (((rd l2 x22_2)).toNat * 9)).block, (ad136.add (((rd l2 x22_2)).toNat * 9)).off + 8, none⟩ = some (.int .i64 ((rd_T46 l1 (rd l2 x22_2)).f2.f6))) (ds := []) (bsq 0 22) (by kernel_rfl) rfl rfl ⟨(blk_cell BK132.out 0).trans rfl, ((HB.out.cell (World.block_lt_of_cell? w _ hw135_0)).trans hw135_0), ((HB.out.cell (World.block_lt_of_cell? w _ hw135_1)).trans hw135_1), ((HB.out.cell (World.block_lt_of_cell? w _ hw135_2)).trans hw135_2), ((HB.out.cell (World.block_lt_of_cell? w _ hw135_3)).trans hw135_3), ((HB.out.cell (World.block_lt_of_cell? w _ hw135_4)).trans hw135_4), ((HB.out.cell (World.block_lt_of_cell? w _ hw135_5)).trans hw135_5), ((HB.out.cell (World.block_lt_of_cell? w _ hw135_6)).trans hw135_6), ((HB.out.cell (World.block_lt_of_cell? w _ hw135_7)).trans hw135_7), ((HB.out.cell (World.block_lt_of_cell? w _ hw135_8)).trans hw135_8), ((HB.out.cell (World.block_lt_of_cell? w _ hw135_9)).trans hw135_9), ((HB.out.cell (World.block_lt_of_cell? w _ hw135_10)).trans hw135_10), ((HB.out.cell (World.block_lt_of_cell? w _ hw135_11)).trans hw135_11), ((HB.out.cell (World.block_lt_of_cell? w _ hw136_0)).trans hw136_0), ((HB.out.cell (World.block_lt_of_cell? w _ hw136_1)).trans hw136_1), ((HB.out.cell (World.block_lt_of_cell? w _ hw136_2)).trans hw136_2), ((HB.out.cell (World.block_lt_of_cell? w _ hw136_3)).trans hw136_3), ((HB.out.cell (World.block_lt_of_cell? w _ hw136_4)).trans hw136_4), ((HB.out.cell (World.block_lt_of_cell? w _ hw136_5)).trans hw136_5), ((HB.out.cell (World.block_lt_of_cell? w _ hw136_6)).trans hw136_6), ((HB.out.cell (World.block_lt_of_cell? w _ hw136_7)).trans hw136_7), ((HB.out.cell (World.block_lt_of_cell? w _ hw136_8)).trans hw136_8)⟩ (fun hHeld => ?_); refine with_tabW search_Matches.tab6 search_Matches.bits6 (fun HT_ HW_ => ?_)
               generalize wr.drew = w26 at BK132 HB hx135_0 hx135_1 hx135_10 hx135_11 hx135_2 hx135_3 hx135_4 hx135_5 hx135_6 hx135_7 hx135_8 hx135_9 hx136_0 hx136_1 hx136_2 hx136_3 hx136_4 hx136_5 hx136_6 hx136_7 hx136_8 hHeld ⊢
               refine pu 0 27 (bsq 1 21) ?_
               refine pu 1 28 (bsq 2 20) ?_
               refine pu 2 29 (bsq 3 19) ?_
               refine pu 3 30 (bsq 4 18) ?_
               refine pu 4 31 (bsq 5 17) ?_
               refine pu 5 32 (bsq 6 16) ?_
               refine pu 6 33 (bsq 7 15) ?_
               refine pu 7 34 (bsq 8 14) ?_
               refine pu 8 35 (bsq 9 13) ?_
               refine pu 9 36 (bsq 10 12) ?_
               refine pu 11 38 (bls [10, 1, 1, 10]) ?_
               refine pu 15 42 (bls [10, 1, 1, 3, 1, 6]) ?_
               refine pu 16 43 (bls [10, 1, 1, 3, 2, 5]) ?_
               refine pu 17 44 (bls [10, 1, 1, 3, 3, 4]) ?_
               refine tk 10 37 (bls [12, 3, 3, 4]) hHeld ?_ (he := by rintro w' ⟨s0, s1, s2, s3, s4, s5, s6, s7, s8, s9, s10, s11, s12, s13, s14, s15, s16, s17, s18, s19, s20, s21⟩; go_simp; with_reducible rfl)
               refine pu 12 39 (bls [13, 2, 3, 4]) ?_
               refine pu 13 40 (bls [14, 1, 3, 4]) ?_
               refine tk 14 41 (bsq 18 4) hHeld ?_ (he := by rintro w' ⟨s0, s1, s2, s3, s4, s5, s6, s7, s8, s9, s10, s11, s12, s13, s14, s15, s16, s17, s18, s19, s20, s21⟩; go_simp; with_reducible rfl)
               refine tk 18 45 (bsq 19 3) hHeld ?_ (he := by rintro w' ⟨s0, s1, s2, s3, s4, s5, s6, s7, s8, s9, s10, s11, s12, s13, s14, s15, s16, s17, s18, s19, s20, s21⟩; go_simp; with_reducible rfl)
               refine one_ (i := 19) (N := some 46) (bsq 20 2) rfl rfl (one_of HT_.out (by kernel_rfl)) (by decide) (fun K hK => ?_)
               refine goes_ Try.func57 (by kernel_rfl) rfl #[.agg #[.int .i64 ((rd_T50 l0_0 x22_2).f0.f0), .int .i64 ((rd_T50 l0_0 x22_2).f0.f1), .int .i64 ((rd_T50 l0_0 x22_2).f0.f2), .int .i64 ((rd_T50 l0_0 x22_2).f0.f3), .int .i64 ((rd_T50 l0_0 x22_2).f0.f4)], .agg #[.int .i64 ((rd_T46 l1 (rd l2 x22_2)).f0), .int .i64 ((rd_T46 l1 (rd l2 x22_2)).f1), .int .i64 ((rd_T46 l1 (rd l2 x22_2)).f2.f0), .int .i64 ((rd_T46 l1 (rd l2 x22_2)).f2.f1), .int .i64 ((rd_T46 l1 (rd l2 x22_2)).f2.f2), .int .i64 ((rd_T46 l1 (rd l2 x22_2)).f2.f3), .int .i64 ((rd_T46 l1 (rd l2 x22_2)).f2.f4), .string ((rd_T46 l1 (rd l2 x22_2)).f2.f5), .int .i64 ((rd_T46 l1 (rd l2 x22_2)).f2.f6)]] (by rfl) rfl rfl (by (try simp only [List.map_toArray, List.map_cons, List.map_nil]); first | done | rfl | (simp only [List.length_drop, List.length_take]; rfl)) ?_
               with_reducible refine (search_satisfies.calls k2 ((rd_T50 l0_0 x22_2).f0.f0) ((rd_T50 l0_0 x22_2).f0.f1) ((rd_T50 l0_0 x22_2).f0.f2) ((rd_T50 l0_0 x22_2).f0.f3) ((rd_T50 l0_0 x22_2).f0.f4) ((rd_T46 l1 (rd l2 x22_2)).f0) ((rd_T46 l1 (rd l2 x22_2)).f1) ((rd_T46 l1 (rd l2 x22_2)).f2.f0) ((rd_T46 l1 (rd l2 x22_2)).f2.f1) ((rd_T46 l1 (rd l2 x22_2)).f2.f2) ((rd_T46 l1 (rd l2 x22_2)).f2.f3) ((rd_T46 l1 (rd l2 x22_2)).f2.f4) ((rd_T46 l1 (rd l2 x22_2)).f2.f5) ((rd_T46 l1 (rd l2 x22_2)).f2.f6) t137 _ A25.out).mono ?_
               rintro e w27 ⟨rfl, hb⟩
               refine ⟨_, rfl, ?_⟩
               have n0_ := Aside0.mk (blk_below (bg BK132.out) hb)
               have n1_ := Aside0.mk (below_step (bs HB.out) hb)
               clear BK132
               clear HB
               have BK132 := n0_
               have HB := n1_
               clear n0_ n1_
               (try clear hb)
               (try clear hb2)
               (try clear hk)
               (try clear hi)
               refine hK.out _ _ ⟨(blk_cell BK132.out 0).trans rfl, ((HB.out.cell (World.block_lt_of_cell? w _ hw135_0)).trans hw135_0), ((HB.out.cell (World.block_lt_of_cell? w _ hw135_1)).trans hw135_1), ((HB.out.cell (World.block_lt_of_cell? w _ hw135_2)).trans hw135_2), ((HB.out.cell (World.block_lt_of_cell? w _ hw135_3)).trans hw135_3), ((HB.out.cell (World.block_lt_of_cell? w _ hw135_4)).trans hw135_4), ((HB.out.cell (World.block_lt_of_cell? w _ hw135_5)).trans hw135_5), ((HB.out.cell (World.block_lt_of_cell? w _ hw135_6)).trans hw135_6), ((HB.out.cell (World.block_lt_of_cell? w _ hw135_7)).trans hw135_7), ((HB.out.cell (World.block_lt_of_cell? w _ hw135_8)).trans hw135_8), ((HB.out.cell (World.block_lt_of_cell? w _ hw135_9)).trans hw135_9), ((HB.out.cell (World.block_lt_of_cell? w _ hw135_10)).trans hw135_10), ((HB.out.cell (World.block_lt_of_cell? w _ hw135_11)).trans hw135_11), ((HB.out.cell (World.block_lt_of_cell? w _ hw136_0)).trans hw136_0), ((HB.out.cell (World.block_lt_of_cell? w _ hw136_1)).trans hw136_1), ((HB.out.cell (World.block_lt_of_cell? w _ hw136_2)).trans hw136_2), ((HB.out.cell (World.block_lt_of_cell? w _ hw136_3)).trans hw136_3), ((HB.out.cell (World.block_lt_of_cell? w _ hw136_4)).trans hw136_4), ((HB.out.cell (World.block_lt_of_cell? w _ hw136_5)).trans hw136_5), ((HB.out.cell (World.block_lt_of_cell? w _ hw136_6)).trans hw136_6), ((HB.out.cell (World.block_lt_of_cell? w _ hw136_7)).trans hw136_7), ((HB.out.cell (World.block_lt_of_cell? w _ hw136_8)).trans hw136_8)⟩ (fun hHeld => ?_)
               clear hK K
               refine norm_ (a' := ?_) ?_ ?_
               rotate_left
               ·
                show Act.put _ (some 46) _ = _
                simp only [Act.put, List.setIfInBounds_toArray, List.set_cons_zero, List.set_cons_succ, i64_w, i32_w]
                rfl
               refine pu 20 47 (bsq 21 1) ?_
               refine pu 21 48 (bsq 22 0) ?_
               refine done_ (done_of HT_.out (by kernel_rfl)) ?_
               try go_wp2
               go_meet
               case rel => exact ⟨_, (!t137), (by first | rfl | (simp; done) | (simp [*]; done)), H', ⟨by have := HJ3.out; have := HK2.out; first | omega | exact Nat.le_refl _⟩, ⟨bg BK132.out⟩, ⟨bs HB.out⟩⟩
              ·
               rw [if_neg c24] at H
               exact absurd H (by simp)
             ·
              rw [if_neg c23] at H
              exact absurd H (by simp)
            ·
             rw [if_neg c22] at H
             exact absurd H (by simp)
         case rest =>
          clear HC17
          try clear c1
          try clear p1
          try clear q1
          try clear hx1
          try clear c2
          try clear p2
          try clear c5
          try clear p13
          try clear q13
          try clear hx13
          try clear c14
          try clear c14b0
          try clear c15
          try clear c15b0
          try clear c16
          try clear c16b0
          try clear c18
          try clear c18b0
          try clear c20
          try clear c20b0
          try clear c22
          try clear c22b0
          try clear c23
          try clear c23b0
          try clear c24
          try clear c24b0
          try clear hx134_0
          try clear hx135_0
          try clear hx135_1
          try clear hx135_10
          try clear hx135_11
          try clear hx135_2
          try clear hx135_3
          try clear hx135_4
          try clear hx135_5
          try clear hx135_6
          try clear hx135_7
          try clear hx135_8
          try clear hx135_9
          try clear hx136_0
          try clear hx136_1
          try clear hx136_2
          try clear hx136_3
          try clear hx136_4
          try clear hx136_5
          try clear hx136_6
          try clear hx136_7
          try clear hx136_8
          try clear p134
          try clear p135
          try clear p136
          try clear q134
          try clear q135
          try clear q136
          obtain ⟨kq, x48_16, rfl, HA, HJ16, BK132, HB⟩ := hcut
          cases kq with
          | zero => exact absurd HA.out (by simp [search_Matches.j2])
          | succ kj16 =>
           have H := HA.out
           clear HA
           simp only [search_Matches.j2] at H
           by_cases c28 : x48_16 = true
           ·
            subst c28
            have H1 : (some false) = some r := by rw [if_pos rfl] at H; exact H
            clear H
            have H := H1
            clear H1
            obtain rfl := Option.some.inj H
            go_wp2
            go_ret
            exact ⟨by first | rfl | (simp [errW_none, errW_some] <;> rfl) | (simp [*, errW_none, errW_some] <;> rfl), bs HB.out⟩
           ·
            replace c28 := Bool.eq_false_iff.mpr c28
            subst c28
            have H1 : (if x22_2 > 0 then (if 0 ≤ x22_2 then (if x22_2 < (l0_0.length : Int) then (if 0 ≤ (wrap64 (x22_2 - 1)) then (if (wrap64 (x22_2 - 1)) < (l2.length : Int) then ((search_follows.f kj16 ((rd_T50 l0_0 x22_2).f0.f0) ((rd_T50 l0_0 x22_2).f0.f1) ((rd_T50 l0_0 x22_2).f0.f2) ((rd_T50 l0_0 x22_2).f0.f3) ((rd_T50 l0_0 x22_2).f0.f4) ((rd_T50 l0_0 x22_2).f1) ((rd_T50 l0_0 x22_2).f2) ((rd_T50 l0_0 x22_2).f3.f0) ((rd_T50 l0_0 x22_2).f3.f1) ((rd_T50 l0_0 x22_2).f3.f2) ((rd_T50 l0_0 x22_2).f3.f3) ((rd_T50 l0_0 x22_2).f3.f4) l1 (rd l2 (wrap64 (x22_2 - 1))) (rd l2 x22_2)).bind fun t140 => (if t140 = true then (search_Matches.l0 kj16 l1 l2 l2 (l2.length : Int) (wrap64 (x22_2 + 1)) l0_0) else (some false))) else (none)) else (none)) else (none)) else (none)) else (search_Matches.l0 kj16 l1 l2 l2 (l2.length : Int) (wrap64 (x22_2 + 1)) l0_0)) = some r := by rw [if_neg (show ¬ (false = true) by decide)] at H; exact H
            clear H
            have H := H1
            clear H1
            by_cases c29 : x22_2 > 0
            ·
             rw [if_pos c29] at H
             have c29b0 : decide (0 < x22_2) = true := decide_eq_true c29
             clear c29
             by_cases c30 : 0 ≤ x22_2
             ·
              rw [if_pos c30] at H
              have c30b0 : decide (0 ≤ x22_2) = true := decide_eq_true c30
              clear c30
              by_cases c31 : x22_2 < (l0_0.length : Int)
              ·
               rw [if_pos c31] at H
               have c31b0 : decide (x22_2 < (l0_0.length : Int)) = true := decide_eq_true c31
               clear c31
               obtain ⟨ji32, hji32⟩ : ∃ j_ : Int, (wrap64 (x22_2 - 1)) = j_ := ⟨_, rfl⟩
               replace H : (if 0 ≤ (ji32) then (if (ji32) < (l2.length : Int) then ((search_follows.f kj16 ((rd_T50 l0_0 x22_2).f0.f0) ((rd_T50 l0_0 x22_2).f0.f1) ((rd_T50 l0_0 x22_2).f0.f2) ((rd_T50 l0_0 x22_2).f0.f3) ((rd_T50 l0_0 x22_2).f0.f4) ((rd_T50 l0_0 x22_2).f1) ((rd_T50 l0_0 x22_2).f2) ((rd_T50 l0_0 x22_2).f3.f0) ((rd_T50 l0_0 x22_2).f3.f1) ((rd_T50 l0_0 x22_2).f3.f2) ((rd_T50 l0_0 x22_2).f3.f3) ((rd_T50 l0_0 x22_2).f3.f4) l1 (rd l2 (ji32)) (rd l2 x22_2)).bind fun t140 => (if t140 = true then (search_Matches.l0 kj16 l1 l2 l2 (l2.length : Int) (wrap64 (x22_2 + 1)) l0_0) else (some false))) else (none)) else (none)) = some r := by first | (rw [hji32] at H; exact H) | (simp only [hji32] at H ⊢; exact H)
               have hji32w : (IntKind.i64.wrap (x22_2 - 1)) = ji32 := (i64_w _).trans hji32
               by_cases c33 : 0 ≤ (ji32)
               ·
                rw [if_pos c33] at H
                have c33b0 : decide (0 ≤ (ji32)) = true := decide_eq_true c33
                clear c33
                by_cases c34 : (ji32) < (l2.length : Int)
                ·
                 rw [if_pos c34] at H
                 have c34b0 : decide ((ji32) < (l2.length : Int)) = true := decide_eq_true c34
                 clear c34
                 replace H := Option.bind_eq_some_iff.mp H
                 obtain ⟨t140, A350, H⟩ := H
                 replace H : (if t140 = true then (search_Matches.l0 kj16 l1 l2 l2 (l2.length : Int) (wrap64 (x22_2 + 1)) l0_0) else (some false)) = some r := H
                 have A35 := Aside0.mk A350
                 clear A350
                 by_cases c36 : t140 = true
                 ·
                  subst c36
                  have H1 : (search_Matches.l0 kj16 l1 l2 l2 (l2.length : Int) (wrap64 (x22_2 + 1)) l0_0) = some r := by rw [if_pos rfl] at H; exact H
                  clear H
                  have H := H1
                  clear H1
                  have H' := Aside0.mk H
                  clear H
                  try go_wp2
                  have n0_ := Aside0.mk (blk_drew BK132.out)
                  have n1_ := Aside0.mk (below_drew1 HB.out)
                  clear BK132
                  clear HB
                  have BK132 := n0_
                  have HB := n1_
                  clear n0_ n1_
                  have p138 : 0 ≤ (x22_2 : Int) := of_decide_eq_true (by first | (with_reducible assumption) | assumption)
                  have q138 : x22_2 < (l0_0.length : Int) := of_decide_eq_true (by first | (with_reducible assumption) | assumption)
                  obtain ⟨ad138, e138, hx138_0, hx138_1, hx138_2, hx138_3, hx138_4, hx138_5, hx138_6, hx138_7, hx138_8, hx138_9, hx138_10, hx138_11⟩ := at_T50 HR0_0.out x22_2 p138 q138
                  have hw138_11 := hx138_11
                  have hw138_10 := hx138_10
                  have hw138_9 := hx138_9
                  have hw138_8 := hx138_8
                  have hw138_7 := hx138_7
                  have hw138_6 := hx138_6
                  have hw138_5 := hx138_5
                  have hw138_4 := hx138_4
                  have hw138_3 := hx138_3
                  have hw138_2 := hx138_2
                  have hw138_1 := hx138_1
                  have hw138_0 := hx138_0
                  cases e138
                  replace hx138_0 := pw_cell_below HB.out hx138_0
                  replace hx138_1 := pw_cell_below HB.out hx138_1
                  replace hx138_2 := pw_cell_below HB.out hx138_2
                  replace hx138_3 := pw_cell_below HB.out hx138_3
                  replace hx138_4 := pw_cell_below HB.out hx138_4
                  replace hx138_5 := pw_cell_below HB.out hx138_5
                  replace hx138_6 := pw_cell_below HB.out hx138_6
                  replace hx138_7 := pw_cell_below HB.out hx138_7
                  replace hx138_8 := pw_cell_below HB.out hx138_8
                  replace hx138_9 := pw_cell_below HB.out hx138_9
                  replace hx138_10 := pw_cell_below HB.out hx138_10
                  replace hx138_11 := pw_cell_below HB.out hx138_11
                  replace p138 := eq_true p138
                  replace q138 := eq_true q138
                  have p139 : 0 ≤ ((ji32) : Int) := of_decide_eq_true (by first | (with_reducible assumption) | assumption)
                  have q139 : (ji32) < (l2.length : Int) := of_decide_eq_true (by first | (with_reducible assumption) | assumption)
                  obtain ⟨ad139, e139, hx139_0⟩ := Kd.at_int HR2.out (ji32) p139 q139
                  have hw139_0 := hx139_0
                  obtain rfl : ad134 = ad139 := (by injection e139)
                  replace hx139_0 := pw_cell_below HB.out hx139_0
                  replace p139 := eq_true p139
                  replace q139 := eq_true q139
                  refine start_ (n := 18) (S := fun w' => w'.cell? ⟨gb132, 0, none⟩ = some (.slice (some ad138) l0_0.length c0_0) ∧ w'.cell? (ad138.add ((x22_2).toNat * 12)) = some (.int .i64 ((rd_T50 l0_0 x22_2).f0.f0)) ∧ w'.cell? ⟨(ad138.add ((x22_2).toNat * 12)).block, (ad138.add ((x22_2).toNat * 12)).off + 1, none⟩ = some (.int .i64 ((rd_T50 l0_0 x22_2).f0.f1)) ∧ w'.cell? ⟨(ad138.add ((x22_2).toNat * 12)).block, (ad138.add ((x22_2).toNat * 12)).off + 2, none⟩ = some (.int .i64 ((rd_T50 l0_0 x22_2).f0.f2)) ∧ w'.cell? ⟨(ad138.add ((x22_2).toNat * 12)).block, (ad138.add ((x22_2).toNat * 12)).off + 3, none⟩ = some (.int .i64 ((rd_T50 l0_0 x22_2).f0.f3)) ∧ w'.cell? ⟨(ad138.add ((x22_2).toNat * 12)).block, (ad138.add ((x22_2).toNat * 12)).off + 4, none⟩ = some (.int .i64 ((rd_T50 l0_0 x22_2).f0.f4)) ∧ w'.cell? ⟨(ad138.add ((x22_2).toNat * 12)).block, (ad138.add ((x22_2).toNat * 12)).off + 5, none⟩ = some (.int .i64 ((rd_T50 l0_0 x22_2).f1)) ∧ w'.cell? ⟨(ad138.add ((x22_2).toNat * 12)).block, (ad138.add ((x22_2).toNat * 12)).off + 6, none⟩ = some (.bool ((rd_T50 l0_0 x22_2).f2)) ∧ w'.cell? ⟨(ad138.add ((x22_2).toNat * 12)).block, (ad138.add ((x22_2).toNat * 12)).off + 7, none⟩ = some (.int .i64 ((rd_T50 l0_0 x22_2).f3.f0)) ∧ w'.cell? ⟨(ad138.add ((x22_2).toNat * 12)).block, (ad138.add ((x22_2).toNat * 12)).off + 8, none⟩ = some (.int .i64 ((rd_T50 l0_0 x22_2).f3.f1)) ∧ w'.cell? ⟨(ad138.add ((x22_2).toNat * 12)).block, (ad138.add ((x22_2).toNat * 12)).off + 9, none⟩ = some (.int .i64 ((rd_T50 l0_0 x22_2).f3.f2)) ∧ w'.cell? ⟨(ad138.add ((x22_2).toNat * 12)).block, (ad138.add ((x22_2).toNat * 12)).off + 10, none⟩ = some (.int .i64 ((rd_T50 l0_0 x22_2).f3.f3)) ∧ w'.cell? ⟨(ad138.add ((x22_2).toNat * 12)).block, (ad138.add ((x22_2).toNat * 12)).off + 11, none⟩ = some (.int .i64 ((rd_T50 l0_0 x22_2).f3.f4)) ∧ w'.cell? (ad134.add ((ji32)).toNat) = some (.int .i64 (rd l2 (ji32)))) (ds := []) (bsq 0 18) (by kernel_rfl) rfl rfl ⟨(blk_cell BK132.out 0).trans rfl, ((HB.out.cell (World.block_lt_of_cell? w _ hw138_0)).trans hw138_0), ((HB.out.cell (World.block_lt_of_cell? w _ hw138_1)).trans hw138_1), ((HB.out.cell (World.block_lt_of_cell? w _ hw138_2)).trans hw138_2), ((HB.out.cell (World.block_lt_of_cell? w _ hw138_3)).trans hw138_3), ((HB.out.cell (World.block_lt_of_cell? w _ hw138_4)).trans hw138_4), ((HB.out.cell (World.block_lt_of_cell? w _ hw138_5)).trans hw138_5), ((HB.out.cell (World.block_lt_of_cell? w _ hw138_6)).trans hw138_6), ((HB.out.cell (World.block_lt_of_cell? w _ hw138_7)).trans hw138_7), ((HB.out.cell (World.block_lt_of_cell? w _ hw138_8)).trans hw138_8), ((HB.out.cell (World.block_lt_of_cell? w _ hw138_9)).trans hw138_9), ((HB.out.cell (World.block_lt_of_cell? w _ hw138_10)).trans hw138_10), ((HB.out.cell (World.block_lt_of_cell? w _ hw138_11)).trans hw138_11), ((HB.out.cell (World.block_lt_of_cell? w _ hw139_0)).trans hw139_0)⟩ (fun hHeld => ?_); refine with_tabW search_Matches.tab8 search_Matches.bits8 (fun HT_ HW_ => ?_)
                  generalize wc.drew = w37 at BK132 HB hx138_0 hx138_1 hx138_10 hx138_11 hx138_2 hx138_3 hx138_4 hx138_5 hx138_6 hx138_7 hx138_8 hx138_9 hx139_0 hHeld ⊢
                  refine pu 0 49 (bsq 1 17) ?_
                  refine pu 1 50 (bsq 2 16) ?_
                  refine pu 2 51 (bsq 3 15) ?_
                  refine pu 3 52 (bsq 4 14) ?_
                  refine pu 5 54 (bls [4, 1, 1, 12]) ?_
                  refine pu 8 57 (bls [4, 1, 1, 2, 1, 9]) ?_
                  refine pu 9 58 (bls [4, 1, 1, 2, 2, 8]) ?_
                  refine pu 10 59 (bls [4, 1, 1, 2, 3, 7]) ?_
                  refine pu 11 60 (bls [4, 1, 1, 2, 4, 6]) ?_
                  refine pu 12 61 (bls [4, 1, 1, 2, 5, 5]) ?_
                  refine pu 14 63 (bls [4, 1, 1, 2, 5, 1, 1, 3]) ?_
                  refine tk 4 53 (bls [6, 2, 5, 1, 1, 3]) hHeld ?_ (he := by rintro w' ⟨s0, s1, s2, s3, s4, s5, s6, s7, s8, s9, s10, s11, s12, s13⟩; go_simp; with_reducible rfl)
                  refine pu 6 55 (bls [7, 1, 5, 1, 1, 3]) ?_
                  refine tk 7 56 (bls [13, 1, 1, 3]) hHeld ?_ (he := by rintro w' ⟨s0, s1, s2, s3, s4, s5, s6, s7, s8, s9, s10, s11, s12, s13⟩; go_simp; with_reducible rfl)
                  refine tk 13 62 (bsq 15 3) hHeld ?_ (he := by rintro w' ⟨s0, s1, s2, s3, s4, s5, s6, s7, s8, s9, s10, s11, s12, s13⟩; go_simp; with_reducible rfl)
                  refine one_ (i := 15) (N := some 64) (bsq 16 2) rfl rfl (one_of HT_.out (by kernel_rfl)) (by decide) (fun K hK => ?_)
                  refine goes_ Try.func58 (by kernel_rfl) rfl #[.agg #[.int .i64 ((rd_T50 l0_0 x22_2).f0.f0), .int .i64 ((rd_T50 l0_0 x22_2).f0.f1), .int .i64 ((rd_T50 l0_0 x22_2).f0.f2), .int .i64 ((rd_T50 l0_0 x22_2).f0.f3), .int .i64 ((rd_T50 l0_0 x22_2).f0.f4), .int .i64 ((rd_T50 l0_0 x22_2).f1), .bool ((rd_T50 l0_0 x22_2).f2), .int .i64 ((rd_T50 l0_0 x22_2).f3.f0), .int .i64 ((rd_T50 l0_0 x22_2).f3.f1), .int .i64 ((rd_T50 l0_0 x22_2).f3.f2), .int .i64 ((rd_T50 l0_0 x22_2).f3.f3), .int .i64 ((rd_T50 l0_0 x22_2).f3.f4)], .slice A1 l1.length c1, .int .i64 (rd l2 (ji32)), .int .i64 (rd l2 x22_2)] (by rfl) rfl rfl (by (try simp only [List.map_toArray, List.map_cons, List.map_nil]); first | done | (simp only [hji32]; rfl) | rfl | (simp only [List.length_drop, List.length_take]; rfl)) ?_
                  with_reducible refine (search_follows.calls kj16 ((rd_T50 l0_0 x22_2).f0.f0) ((rd_T50 l0_0 x22_2).f0.f1) ((rd_T50 l0_0 x22_2).f0.f2) ((rd_T50 l0_0 x22_2).f0.f3) ((rd_T50 l0_0 x22_2).f0.f4) ((rd_T50 l0_0 x22_2).f1) ((rd_T50 l0_0 x22_2).f2) ((rd_T50 l0_0 x22_2).f3.f0) ((rd_T50 l0_0 x22_2).f3.f1) ((rd_T50 l0_0 x22_2).f3.f2) ((rd_T50 l0_0 x22_2).f3.f3) ((rd_T50 l0_0 x22_2).f3.f4) _ _ l1 (rd l2 (ji32)) (rd l2 x22_2) true _ ?side1 ?side2 A35.out).mono ?_
                  (case side1 => repeat (first | exact (Kd.C_below HR1.out HB.out) | (with_reducible refine Kd.C_alloc ?_ _) | (with_reducible refine Kd.C_drewN ?_ _) | (with_reducible refine Kd.C_drew ?_)))
                  (case side2 => exact HC1.out)
                  rintro e w38 ⟨rfl, hb⟩
                  refine ⟨_, rfl, ?_⟩
                  have n0_ := Aside0.mk (blk_below (bg BK132.out) hb)
                  have n1_ := Aside0.mk (below_step (bs HB.out) hb)
                  clear BK132
                  clear HB
                  have BK132 := n0_
                  have HB := n1_
                  clear n0_ n1_
                  (try clear hb)
                  (try clear hb2)
                  (try clear hk)
                  (try clear hi)
                  refine hK.out _ _ ⟨(blk_cell BK132.out 0).trans rfl, ((HB.out.cell (World.block_lt_of_cell? w _ hw138_0)).trans hw138_0), ((HB.out.cell (World.block_lt_of_cell? w _ hw138_1)).trans hw138_1), ((HB.out.cell (World.block_lt_of_cell? w _ hw138_2)).trans hw138_2), ((HB.out.cell (World.block_lt_of_cell? w _ hw138_3)).trans hw138_3), ((HB.out.cell (World.block_lt_of_cell? w _ hw138_4)).trans hw138_4), ((HB.out.cell (World.block_lt_of_cell? w _ hw138_5)).trans hw138_5), ((HB.out.cell (World.block_lt_of_cell? w _ hw138_6)).trans hw138_6), ((HB.out.cell (World.block_lt_of_cell? w _ hw138_7)).trans hw138_7), ((HB.out.cell (World.block_lt_of_cell? w _ hw138_8)).trans hw138_8), ((HB.out.cell (World.block_lt_of_cell? w _ hw138_9)).trans hw138_9), ((HB.out.cell (World.block_lt_of_cell? w _ hw138_10)).trans hw138_10), ((HB.out.cell (World.block_lt_of_cell? w _ hw138_11)).trans hw138_11), ((HB.out.cell (World.block_lt_of_cell? w _ hw139_0)).trans hw139_0)⟩ (fun hHeld => ?_)
                  clear hK K
                  refine norm_ (a' := ?_) ?_ ?_
                  rotate_left
                  ·
                   show Act.put _ (some 64) _ = _
                   simp only [Act.put, List.setIfInBounds_toArray, List.set_cons_zero, List.set_cons_succ, i64_w, i32_w]
                   rfl
                  refine pu 16 65 (bsq 17 1) ?_
                  refine pu 17 66 (bsq 18 0) ?_
                  refine done_ (done_of HT_.out (by kernel_rfl)) ?_
                  try go_wp2
                  go_roundg kj16
                  case measure => have := HJ3.out; have := HK2.out; have := HJ16.out; omega
                  case rel => exact ⟨(wrap64 (x22_2 + 1)), (by first | rfl | (simp; done) | (simp [*]; done)), H', ⟨by have := HJ3.out; have := HK2.out; have := HJ16.out; omega⟩, ⟨bg BK132.out⟩, ⟨bs HB.out⟩⟩
                 ·
                  replace c36 := Bool.eq_false_iff.mpr c36
                  subst c36
                  have H1 : (some false) = some r := by rw [if_neg (show ¬ (false = true) by decide)] at H; exact H
                  clear H
                  have H := H1
                  clear H1
                  obtain rfl := Option.some.inj H
                  try go_wp2
                  have n0_ := Aside0.mk (blk_drew BK132.out)
                  have n1_ := Aside0.mk (below_drew1 HB.out)
                  clear BK132
                  clear HB
                  have BK132 := n0_
                  have HB := n1_
                  clear n0_ n1_
                  have p138 : 0 ≤ (x22_2 : Int) := of_decide_eq_true (by first | (with_reducible assumption) | assumption)
                  have q138 : x22_2 < (l0_0.length : Int) := of_decide_eq_true (by first | (with_reducible assumption) | assumption)
                  obtain ⟨ad138, e138, hx138_0, hx138_1, hx138_2, hx138_3, hx138_4, hx138_5, hx138_6, hx138_7, hx138_8, hx138_9, hx138_10, hx138_11⟩ := at_T50 HR0_0.out x22_2 p138 q138
                  have hw138_11 := hx138_11
                  have hw138_10 := hx138_10
                  have hw138_9 := hx138_9
                  have hw138_8 := hx138_8
                  have hw138_7 := hx138_7
                  have hw138_6 := hx138_6
                  have hw138_5 := hx138_5
                  have hw138_4 := hx138_4
                  have hw138_3 := hx138_3
                  have hw138_2 := hx138_2
                  have hw138_1 := hx138_1
                  have hw138_0 := hx138_0
                  cases e138
                  replace hx138_0 := pw_cell_below HB.out hx138_0
                  replace hx138_1 := pw_cell_below HB.out hx138_1
                  replace hx138_2 := pw_cell_below HB.out hx138_2
                  replace hx138_3 := pw_cell_below HB.out hx138_3
                  replace hx138_4 := pw_cell_below HB.out hx138_4
                  replace hx138_5 := pw_cell_below HB.out hx138_5
                  replace hx138_6 := pw_cell_below HB.out hx138_6
                  replace hx138_7 := pw_cell_below HB.out hx138_7
                  replace hx138_8 := pw_cell_below HB.out hx138_8
                  replace hx138_9 := pw_cell_below HB.out hx138_9
                  replace hx138_10 := pw_cell_below HB.out hx138_10
                  replace hx138_11 := pw_cell_below HB.out hx138_11
                  replace p138 := eq_true p138
                  replace q138 := eq_true q138
                  have p139 : 0 ≤ ((ji32) : Int) := of_decide_eq_true (by first | (with_reducible assumption) | assumption)
                  have q139 : (ji32) < (l2.length : Int) := of_decide_eq_true (by first | (with_reducible assumption) | assumption)
                  obtain ⟨ad139, e139, hx139_0⟩ := Kd.at_int HR2.out (ji32) p139 q139
                  have hw139_0 := hx139_0
                  obtain rfl : ad134 = ad139 := (by injection e139)
                  replace hx139_0 := pw_cell_below HB.out hx139_0
                  replace p139 := eq_true p139
                  replace q139 := eq_true q139
                  refine start_ (n := 18) (S := fun w' => w'.cell? ⟨gb132, 0, none⟩ = some (.slice (some ad138) l0_0.length c0_0) ∧ w'.cell? (ad138.add ((x22_2).toNat * 12)) = some (.int .i64 ((rd_T50 l0_0 x22_2).f0.f0)) ∧ w'.cell? ⟨(ad138.add ((x22_2).toNat * 12)).block, (ad138.add ((x22_2).toNat * 12)).off + 1, none⟩ = some (.int .i64 ((rd_T50 l0_0 x22_2).f0.f1)) ∧ w'.cell? ⟨(ad138.add ((x22_2).toNat * 12)).block, (ad138.add ((x22_2).toNat * 12)).off + 2, none⟩ = some (.int .i64 ((rd_T50 l0_0 x22_2).f0.f2)) ∧ w'.cell? ⟨(ad138.add ((x22_2).toNat * 12)).block, (ad138.add ((x22_2).toNat * 12)).off + 3, none⟩ = some (.int .i64 ((rd_T50 l0_0 x22_2).f0.f3)) ∧ w'.cell? ⟨(ad138.add ((x22_2).toNat * 12)).block, (ad138.add ((x22_2).toNat * 12)).off + 4, none⟩ = some (.int .i64 ((rd_T50 l0_0 x22_2).f0.f4)) ∧ w'.cell? ⟨(ad138.add ((x22_2).toNat * 12)).block, (ad138.add ((x22_2).toNat * 12)).off + 5, none⟩ = some (.int .i64 ((rd_T50 l0_0 x22_2).f1)) ∧ w'.cell? ⟨(ad138.add ((x22_2).toNat * 12)).block, (ad138.add ((x22_2).toNat * 12)).off + 6, none⟩ = some (.bool ((rd_T50 l0_0 x22_2).f2)) ∧ w'.cell? ⟨(ad138.add ((x22_2).toNat * 12)).block, (ad138.add ((x22_2).toNat * 12)).off + 7, none⟩ = some (.int .i64 ((rd_T50 l0_0 x22_2).f3.f0)) ∧ w'.cell? ⟨(ad138.add ((x22_2).toNat * 12)).block, (ad138.add ((x22_2).toNat * 12)).off + 8, none⟩ = some (.int .i64 ((rd_T50 l0_0 x22_2).f3.f1)) ∧ w'.cell? ⟨(ad138.add ((x22_2).toNat * 12)).block, (ad138.add ((x22_2).toNat * 12)).off + 9, none⟩ = some (.int .i64 ((rd_T50 l0_0 x22_2).f3.f2)) ∧ w'.cell? ⟨(ad138.add ((x22_2).toNat * 12)).block, (ad138.add ((x22_2).toNat * 12)).off + 10, none⟩ = some (.int .i64 ((rd_T50 l0_0 x22_2).f3.f3)) ∧ w'.cell? ⟨(ad138.add ((x22_2).toNat * 12)).block, (ad138.add ((x22_2).toNat * 12)).off + 11, none⟩ = some (.int .i64 ((rd_T50 l0_0 x22_2).f3.f4)) ∧ w'.cell? (ad134.add ((ji32)).toNat) = some (.int .i64 (rd l2 (ji32)))) (ds := []) (bsq 0 18) (by kernel_rfl) rfl rfl ⟨(blk_cell BK132.out 0).trans rfl, ((HB.out.cell (World.block_lt_of_cell? w _ hw138_0)).trans hw138_0), ((HB.out.cell (World.block_lt_of_cell? w _ hw138_1)).trans hw138_1), ((HB.out.cell (World.block_lt_of_cell? w _ hw138_2)).trans hw138_2), ((HB.out.cell (World.block_lt_of_cell? w _ hw138_3)).trans hw138_3), ((HB.out.cell (World.block_lt_of_cell? w _ hw138_4)).trans hw138_4), ((HB.out.cell (World.block_lt_of_cell? w _ hw138_5)).trans hw138_5), ((HB.out.cell (World.block_lt_of_cell? w _ hw138_6)).trans hw138_6), ((HB.out.cell (World.block_lt_of_cell? w _ hw138_7)).trans hw138_7), ((HB.out.cell (World.block_lt_of_cell? w _ hw138_8)).trans hw138_8), ((HB.out.cell (World.block_lt_of_cell? w _ hw138_9)).trans hw138_9), ((HB.out.cell (World.block_lt_of_cell? w _ hw138_10)).trans hw138_10), ((HB.out.cell (World.block_lt_of_cell? w _ hw138_11)).trans hw138_11), ((HB.out.cell (World.block_lt_of_cell? w _ hw139_0)).trans hw139_0)⟩ (fun hHeld => ?_); refine with_tabW search_Matches.tab8 search_Matches.bits8 (fun HT_ HW_ => ?_)
                  generalize wc.drew = w39 at BK132 HB hx138_0 hx138_1 hx138_10 hx138_11 hx138_2 hx138_3 hx138_4 hx138_5 hx138_6 hx138_7 hx138_8 hx138_9 hx139_0 hHeld ⊢
                  refine pu 0 49 (bsq 1 17) ?_
                  refine pu 1 50 (bsq 2 16) ?_
                  refine pu 2 51 (bsq 3 15) ?_
                  refine pu 3 52 (bsq 4 14) ?_
                  refine pu 5 54 (bls [4, 1, 1, 12]) ?_
                  refine pu 8 57 (bls [4, 1, 1, 2, 1, 9]) ?_
                  refine pu 9 58 (bls [4, 1, 1, 2, 2, 8]) ?_
                  refine pu 10 59 (bls [4, 1, 1, 2, 3, 7]) ?_
                  refine pu 11 60 (bls [4, 1, 1, 2, 4, 6]) ?_
                  refine pu 12 61 (bls [4, 1, 1, 2, 5, 5]) ?_
                  refine pu 14 63 (bls [4, 1, 1, 2, 5, 1, 1, 3]) ?_
                  refine tk 4 53 (bls [6, 2, 5, 1, 1, 3]) hHeld ?_ (he := by rintro w' ⟨s0, s1, s2, s3, s4, s5, s6, s7, s8, s9, s10, s11, s12, s13⟩; go_simp; with_reducible rfl)
                  refine pu 6 55 (bls [7, 1, 5, 1, 1, 3]) ?_
                  refine tk 7 56 (bls [13, 1, 1, 3]) hHeld ?_ (he := by rintro w' ⟨s0, s1, s2, s3, s4, s5, s6, s7, s8, s9, s10, s11, s12, s13⟩; go_simp; with_reducible rfl)
                  refine tk 13 62 (bsq 15 3) hHeld ?_ (he := by rintro w' ⟨s0, s1, s2, s3, s4, s5, s6, s7, s8, s9, s10, s11, s12, s13⟩; go_simp; with_reducible rfl)
                  refine one_ (i := 15) (N := some 64) (bsq 16 2) rfl rfl (one_of HT_.out (by kernel_rfl)) (by decide) (fun K hK => ?_)
                  refine goes_ Try.func58 (by kernel_rfl) rfl #[.agg #[.int .i64 ((rd_T50 l0_0 x22_2).f0.f0), .int .i64 ((rd_T50 l0_0 x22_2).f0.f1), .int .i64 ((rd_T50 l0_0 x22_2).f0.f2), .int .i64 ((rd_T50 l0_0 x22_2).f0.f3), .int .i64 ((rd_T50 l0_0 x22_2).f0.f4), .int .i64 ((rd_T50 l0_0 x22_2).f1), .bool ((rd_T50 l0_0 x22_2).f2), .int .i64 ((rd_T50 l0_0 x22_2).f3.f0), .int .i64 ((rd_T50 l0_0 x22_2).f3.f1), .int .i64 ((rd_T50 l0_0 x22_2).f3.f2), .int .i64 ((rd_T50 l0_0 x22_2).f3.f3), .int .i64 ((rd_T50 l0_0 x22_2).f3.f4)], .slice A1 l1.length c1, .int .i64 (rd l2 (ji32)), .int .i64 (rd l2 x22_2)] (by rfl) rfl rfl (by (try simp only [List.map_toArray, List.map_cons, List.map_nil]); first | done | (simp only [hji32]; rfl) | rfl | (simp only [List.length_drop, List.length_take]; rfl)) ?_
                  with_reducible refine (search_follows.calls kj16 ((rd_T50 l0_0 x22_2).f0.f0) ((rd_T50 l0_0 x22_2).f0.f1) ((rd_T50 l0_0 x22_2).f0.f2) ((rd_T50 l0_0 x22_2).f0.f3) ((rd_T50 l0_0 x22_2).f0.f4) ((rd_T50 l0_0 x22_2).f1) ((rd_T50 l0_0 x22_2).f2) ((rd_T50 l0_0 x22_2).f3.f0) ((rd_T50 l0_0 x22_2).f3.f1) ((rd_T50 l0_0 x22_2).f3.f2) ((rd_T50 l0_0 x22_2).f3.f3) ((rd_T50 l0_0 x22_2).f3.f4) _ _ l1 (rd l2 (ji32)) (rd l2 x22_2) false _ ?side1 ?side2 A35.out).mono ?_
                  (case side1 => repeat (first | exact (Kd.C_below HR1.out HB.out) | (with_reducible refine Kd.C_alloc ?_ _) | (with_reducible refine Kd.C_drewN ?_ _) | (with_reducible refine Kd.C_drew ?_)))
                  (case side2 => exact HC1.out)
                  rintro e w40 ⟨rfl, hb⟩
                  refine ⟨_, rfl, ?_⟩
                  have n0_ := Aside0.mk (blk_below (bg BK132.out) hb)
                  have n1_ := Aside0.mk (below_step (bs HB.out) hb)
                  clear BK132
                  clear HB
                  have BK132 := n0_
                  have HB := n1_
                  clear n0_ n1_
                  (try clear hb)
                  (try clear hb2)
                  (try clear hk)
                  (try clear hi)
                  refine hK.out _ _ ⟨(blk_cell BK132.out 0).trans rfl, ((HB.out.cell (World.block_lt_of_cell? w _ hw138_0)).trans hw138_0), ((HB.out.cell (World.block_lt_of_cell? w _ hw138_1)).trans hw138_1), ((HB.out.cell (World.block_lt_of_cell? w _ hw138_2)).trans hw138_2), ((HB.out.cell (World.block_lt_of_cell? w _ hw138_3)).trans hw138_3), ((HB.out.cell (World.block_lt_of_cell? w _ hw138_4)).trans hw138_4), ((HB.out.cell (World.block_lt_of_cell? w _ hw138_5)).trans hw138_5), ((HB.out.cell (World.block_lt_of_cell? w _ hw138_6)).trans hw138_6), ((HB.out.cell (World.block_lt_of_cell? w _ hw138_7)).trans hw138_7), ((HB.out.cell (World.block_lt_of_cell? w _ hw138_8)).trans hw138_8), ((HB.out.cell (World.block_lt_of_cell? w _ hw138_9)).trans hw138_9), ((HB.out.cell (World.block_lt_of_cell? w _ hw138_10)).trans hw138_10), ((HB.out.cell (World.block_lt_of_cell? w _ hw138_11)).trans hw138_11), ((HB.out.cell (World.block_lt_of_cell? w _ hw139_0)).trans hw139_0)⟩ (fun hHeld => ?_)
                  clear hK K
                  refine norm_ (a' := ?_) ?_ ?_
                  rotate_left
                  ·
                   show Act.put _ (some 64) _ = _
                   simp only [Act.put, List.setIfInBounds_toArray, List.set_cons_zero, List.set_cons_succ, i64_w, i32_w]
                   rfl
                  refine pu 16 65 (bsq 17 1) ?_
                  refine pu 17 66 (bsq 18 0) ?_
                  refine done_ (done_of HT_.out (by kernel_rfl)) ?_
                  try go_wp2
                  go_ret
                  exact ⟨by first | rfl | (simp [errW_none, errW_some] <;> rfl) | (simp only [← hji32]; first | rfl | (simp [errW_none, errW_some] <;> rfl)) | (simp [*, errW_none, errW_some] <;> rfl), bs HB.out⟩
                ·
                 rw [if_neg c34] at H
                 exact absurd H (by simp)
               ·
                rw [if_neg c33] at H
                exact absurd H (by simp)
              ·
               rw [if_neg c31] at H
               exact absurd H (by simp)
             ·
              rw [if_neg c30] at H
              exact absurd H (by simp)
            ·
             rw [if_neg c29] at H
             have c29b0 : decide (0 < x22_2) = false := decide_eq_false c29
             clear c29
             have H' := Aside0.mk H
             clear H
             try go_wp2
             have n0_ := Aside0.mk (blk_drew BK132.out)
             have n1_ := Aside0.mk (below_drew1 HB.out)
             clear BK132
             clear HB
             have BK132 := n0_
             have HB := n1_
             clear n0_ n1_
             refine start_ (n := 18) (S := fun w' => True) (ds := []) (bsq 0 18) (by kernel_rfl) rfl rfl trivial (fun hHeld => ?_); refine with_tabW search_Matches.tab8 search_Matches.bits8 (fun HT_ HW_ => ?_)
             generalize wc.drew = w41 at BK132 HB hHeld ⊢
             refine pu 0 49 (bsq 1 17) ?_
             refine pu 1 50 (bsq 2 16) ?_
             refine pu 2 51 (bsq 3 15) ?_
             refine un 3 52 (bsq 4 14) ?_
             refine un 4 53 (bsq 5 13) ?_
             refine un 5 54 (bsq 6 12) ?_
             refine un 6 55 (bsq 7 11) ?_
             refine un 7 56 (bsq 8 10) ?_
             refine un 8 57 (bsq 9 9) ?_
             refine un 9 58 (bsq 10 8) ?_
             refine un 10 59 (bsq 11 7) ?_
             refine un 11 60 (bsq 12 6) ?_
             refine un 12 61 (bsq 13 5) ?_
             refine un 13 62 (bsq 14 4) ?_
             refine un 14 63 (bsq 15 3) ?_
             refine un 15 64 (bsq 16 2) ?_
             refine un 16 65 (bsq 17 1) ?_
             refine pu 17 66 (bsq 18 0) ?_
             refine done_ (done_of HT_.out (by kernel_rfl)) ?_
             try go_wp2
             go_roundg kj16
             case measure => have := HJ3.out; have := HK2.out; have := HJ16.out; omega
             case rel => exact ⟨(wrap64 (x22_2 + 1)), (by first | rfl | (simp; done) | (simp [*]; done)), H', ⟨by have := HJ3.out; have := HK2.out; have := HJ16.out; omega⟩, ⟨bg BK132.out⟩, ⟨bs HB.out⟩⟩
        ·
         rw [if_neg c16] at H
         exact absurd H (by simp)
       ·
        rw [if_neg c15] at H
        exact absurd H (by simp)
      ·
       rw [if_neg c14] at H
       have c14b0 : decide (x22_2 < (l2.length : Int)) = false := decide_eq_false c14
       clear c14
       obtain rfl := Option.some.inj H
       go_wp2
       go_ret
       exact ⟨by first | rfl | (simp [errW_none, errW_some] <;> rfl) | (simp [*, errW_none, errW_some] <;> rfl), bs HB.out⟩

end Go.Proofs.Ytgdjiphljadlcaa.K
