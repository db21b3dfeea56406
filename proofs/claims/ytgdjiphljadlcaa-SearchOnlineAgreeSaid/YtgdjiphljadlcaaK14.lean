-- Printed by wip/hprint.py (this project's own driver of the kit's print) out of the translation; Lean checks it.
import Derived.Test.YtgdjiphljadlcaaK0
import Derived.Test.YtgdjiphljadlcaaK8
import Derived.Test.YtgdjiphljadlcaaK13
namespace Go.Proofs.Ytgdjiphljadlcaa.K
open Go.RowKit Go.Proofs.YtgdjiphljadlcaaW.PrintWords Go.Proofs.YtgdjiphljadlcaaW.PrintLast Go.Proofs.YtgdjiphljadlcaaW.PrintMore
attribute [local go_sem] max2_int min2_int max_two min_two max_three min_three max_four min_four   -- for this text's walks alone
set_option linter.unusedVariables false
set_option linter.unusedSimpArgs false

/-! ### search_Trace: function 34 -/
mutual
def search_Trace.j0 : Nat → List (S46) → Int → List (List Bool) → Bool → List (S50) → Option (List Int × Bool)
 | 0, _, _, _, _, _ => none
 | k + 1, x1, x2, x8, x40, x182000 => if x40 = true then (some (([] : List Int), false)) else (if 0 ≤ (x8.length : Int) then (if ((x8.length : Int) : Int).toNat ≤ 35184372088832 then ((some (List.replicate ((x8.length : Int) : Int).toNat 0 : List Int)).bind fun y187 => (if 0 ≤ (wrap64 ((x8.length : Int) - 1)) then (if (wrap64 ((x8.length : Int) - 1)) < (y187.length : Int) then (search_Trace.l0 k x1 x8 (y187.set ((wrap64 ((x8.length : Int) - 1)) : Int).toNat x2) (wrap64 ((x8.length : Int) - 1)) x182000) else (none)) else (none))) else (none)) else (none))
def search_Trace.l0 : Nat → List (S46) → List (List Bool) → List Int → Int → List (S50) → Option (List Int × Bool)
 | 0, _, _, _, _, _ => none
 | k + 1, x1, x8, x9, x10, x182000 => if x10 > 0 then (if 0 ≤ x10 then (if x10 < (x182000.length : Int) then (if x10 < (x9.length : Int) then (search_Trace.l1 k x1 x8 x9 x10 (wrap64 ((rd x9 x10) - 1)) x182000 ((rd_T50 x182000 x10).f0.f0) ((rd_T50 x182000 x10).f0.f1) ((rd_T50 x182000 x10).f0.f2) ((rd_T50 x182000 x10).f0.f3) ((rd_T50 x182000 x10).f0.f4) ((rd_T50 x182000 x10).f1) ((rd_T50 x182000 x10).f2) ((rd_T50 x182000 x10).f3.f0) ((rd_T50 x182000 x10).f3.f1) ((rd_T50 x182000 x10).f3.f2) ((rd_T50 x182000 x10).f3.f3) ((rd_T50 x182000 x10).f3.f4)) else (none)) else (none)) else (none)) else (some (x9, true))
def search_Trace.l1 : Nat → List (S46) → List (List Bool) → List Int → Int → Int → List (S50) → Int → Int → Int → Int → Int → Int → Bool → Int → Int → Int → Int → Int → Option (List Int × Bool)
 | 0, _, _, _, _, _, _, _, _, _, _, _, _, _, _, _, _, _, _ => none
 | k + 1, x1, x8, x9, x10, x12, x182000, x193000, x193001, x193002, x193003, x193004, x193005, x193006, x193007, x193008, x193009, x193010, x193011 => if x12 ≥ 0 then (if 0 ≤ (wrap64 (x10 - 1)) then (if (wrap64 (x10 - 1)) < (x8.length : Int) then (if 0 ≤ x12 then (if x12 < ((rd_L11 x8 (wrap64 (x10 - 1))).length : Int) then (if (rdOf false (rd_L11 x8 (wrap64 (x10 - 1))) x12 = true) then (if x193005 = 0 then (search_Trace.j3 k x1 x8 x9 x10 x12 false x182000 x193000 x193001 x193002 x193003 x193004 x193005 x193006 x193007 x193008 x193009 x193010 x193011) else (if 0 ≤ x10 then (if x10 < (x9.length : Int) then (if 0 ≤ (rd x9 x10) then (if (rd x9 x10) < (x1.length : Int) then (if x12 < (x1.length : Int) then (search_Trace.j3 k x1 x8 x9 x10 x12 (decide ((wrap64 (((rd_T46 x1 (rd x9 x10)).f1) - ((rd_T46 x1 x12).f1))) > x193005)) x182000 x193000 x193001 x193002 x193003 x193004 x193005 x193006 x193007 x193008 x193009 x193010 x193011) else (none)) else (none)) else (none)) else (none)) else (none))) else (search_Trace.j3 k x1 x8 x9 x10 x12 true x182000 x193000 x193001 x193002 x193003 x193004 x193005 x193006 x193007 x193008 x193009 x193010 x193011)) else (none)) else (none)) else (none)) else (none)) else (search_Trace.j3 k x1 x8 x9 x10 x12 false x182000 x193000 x193001 x193002 x193003 x193004 x193005 x193006 x193007 x193008 x193009 x193010 x193011)
def search_Trace.j3 : Nat → List (S46) → List (List Bool) → List Int → Int → Int → Bool → List (S50) → Int → Int → Int → Int → Int → Int → Bool → Int → Int → Int → Int → Int → Option (List Int × Bool)
 | 0, _, _, _, _, _, _, _, _, _, _, _, _, _, _, _, _, _, _, _ => none
 | k + 1, x1, x8, x9, x10, x12, x103, x182000, x193000, x193001, x193002, x193003, x193004, x193005, x193006, x193007, x193008, x193009, x193010, x193011 => if x103 = true then (if 0 ≤ x12 then (if x12 < (x1.length : Int) then ((search_forbids.f k x193000 x193001 x193002 x193003 x193004 x193005 x193006 x193007 x193008 x193009 x193010 x193011 ((rd_T46 x1 x12).f0) ((rd_T46 x1 x12).f1) ((rd_T46 x1 x12).f2.f0) ((rd_T46 x1 x12).f2.f1) ((rd_T46 x1 x12).f2.f2) ((rd_T46 x1 x12).f2.f3) ((rd_T46 x1 x12).f2.f4) ((rd_T46 x1 x12).f2.f5) ((rd_T46 x1 x12).f2.f6)).bind fun t200 => (if t200 = true then (some (([] : List Int), false)) else (search_Trace.l1 k x1 x8 x9 x10 (wrap64 (x12 - 1)) x182000 x193000 x193001 x193002 x193003 x193004 x193005 x193006 x193007 x193008 x193009 x193010 x193011))) else (none)) else (none)) else (if x12 < 0 then (some (([] : List Int), false)) else (if 0 ≤ (wrap64 (x10 - 1)) then (if (wrap64 (x10 - 1)) < (x9.length : Int) then (search_Trace.l0 k x1 x8 (x9.set ((wrap64 (x10 - 1)) : Int).toNat x12) (wrap64 (x10 - 1)) x182000) else (none)) else (none)))
end
def search_Trace.f (k : Nat) (l0_0 : List (S50)) (l1 : List (S46)) (a2 : Int) : Option (List Int × Bool) := (search_layers.f k l0_0 l1).bind fun t182 => (if a2 < 0 then (search_Trace.j0 k l1 a2 t182 true l0_0) else (if a2 ≥ (l1.length : Int) then (search_Trace.j0 k l1 a2 t182 true l0_0) else (if (t182.length : Int) = 0 then (search_Trace.j0 k l1 a2 t182 true l0_0) else (if 0 ≤ (wrap64 ((t182.length : Int) - 1)) then (if (wrap64 ((t182.length : Int) - 1)) < (t182.length : Int) then (if 0 ≤ a2 then (if a2 < ((rd_L11 t182 (wrap64 ((t182.length : Int) - 1))).length : Int) then (search_Trace.j0 k l1 a2 t182 (!(rdOf false (rd_L11 t182 (wrap64 ((t182.length : Int) - 1))) a2)) l0_0) else (none)) else (none)) else (none)) else (none)))))
def search_Trace.T11 : Bool × List (List Nat × List Nat) := (true, [([], []), ([0], [0]), ([1], [1]), ([2], [2]), ([2], [2]), ([4, 2], [2, 4]), ([3, 5, 2], [2, 3, 5]), ([6, 2], [2, 6]), ([2], [2]), ([7, 8, 2], [2, 7, 8]), ([9, 2], [2, 9]), ([10, 2], [2, 10]), ([11, 2, 2], [2, 11]), ([12], [12]), ([13, 12], [12, 13]), ([14, 12], [12, 14]), ([15, 12, 12], [12, 15]), ([16], [16]), ([16], [16]), ([16], [16]), ([18, 19, 16], [16, 18, 19]), ([20, 16], [16, 20]), ([17, 21, 16], [16, 17, 21]), ([22, 16], [16, 22]), ([23, 16], [16, 23]), ([16], [16]), ([16], [16]), ([25, 26, 16], [16, 25, 26]), ([27, 16], [16, 27]), ([28, 16], [16, 28]), ([24, 29, 16], [16, 24, 29]), ([16], [16]), ([31, 16], [16, 31]), ([30, 32, 16], [16, 30, 32]), ([16, 33, 12], [12, 16, 33]), ([12, 34, 2], [2, 12, 34]), ([2, 35], [2, 35])])
def search_Trace.B11 : List Nat := [0, 1, 3, 7, 7, 23, 63, 127, 7, 511, 1023, 2047, 4095, 8191, 16383, 32767, 65535, 131071, 131071, 131071, 917503, 1966079, 4194303, 8388607, 16777215, 131071, 131071, 100794367, 235012095, 503447551, 1073741823, 131071, 2147614719, 8589934591, 17179869183, 34359738367, 68719476735]
theorem search_Trace.tab11 : rtab .any (opsOf Try.f34 11) = search_Trace.T11 := by kernel_rfl
theorem search_Trace.bits11 : waitsOk search_Trace.T11.2 search_Trace.B11 = true := by kernel_rfl
set_option maxHeartbeats 8000000 in
set_option maxRecDepth 100000 in
theorem search_Trace.calls (k : Nat) (A0_0 : Option Addr) (c0_0 : Nat) (l0_0 : List (S50)) (A1 : Option Addr) (c1 : Nat) (l1 : List (S46)) (a2 : Int) (r1 : List Int) (r2 : Bool) (w : World) (hr0_0 : Kd.C k50 w A0_0 l0_0.length l0_0) (hc0_0 : l0_0.length ≤ c0_0) (hr1 : Kd.C k46 w A1 l1.length l1) (hc1 : l1.length ≤ c1) (h : search_Trace.f k l0_0 l1 a2 = some (r1, r2)) :
  Calls Try.prog 34 #[.agg #[.slice A0_0 l0_0.length c0_0], .slice A1 l1.length c1, .int .i64 a2] w fun e w' => ∃ v0_ : Value, e = .returned (.tuple #[v0_, .bool r2]) ∧ Kd.R (Kd.int .i64) 3 w' w.heap.size (fun _ => True) v0_ r1 ∧ Below w.heap.size w w' := by
 have hu31 := Try.underlying31
 have hu50 := Try.underlying50
 have hu46 := Try.underlying46
 have HR0_0 := Aside0.mk hr0_0
 have HC0_0 := Aside0.mk hc0_0
 clear hr0_0 hc0_0
 have HR1 := Aside0.mk hr1
 have HC1 := Aside0.mk hc1
 clear hr1 hc1
 have HB := Aside0.mk (Below.refl w.heap.size w)
 have H : ((search_layers.f k l0_0 l1).bind fun t182 => (if a2 < 0 then (search_Trace.j0 k l1 a2 t182 true l0_0) else (if a2 ≥ (l1.length : Int) then (search_Trace.j0 k l1 a2 t182 true l0_0) else (if (t182.length : Int) = 0 then (search_Trace.j0 k l1 a2 t182 true l0_0) else (if 0 ≤ (wrap64 ((t182.length : Int) - 1)) then (if (wrap64 ((t182.length : Int) - 1)) < (t182.length : Int) then (if 0 ≤ a2 then (if a2 < ((rd_L11 t182 (wrap64 ((t182.length : Int) - 1))).length : Int) then (search_Trace.j0 k l1 a2 t182 (!(rdOf false (rd_L11 t182 (wrap64 ((t182.length : Int) - 1))) a2)) l0_0) else (none)) else (none)) else (none)) else (none)))))) = some (r1, r2) := h
 clear h
 replace H := Option.bind_eq_some_iff.mp H
 obtain ⟨t182, A40, H⟩ := H
 replace H : (if a2 < 0 then (search_Trace.j0 k l1 a2 t182 true l0_0) else (if a2 ≥ (l1.length : Int) then (search_Trace.j0 k l1 a2 t182 true l0_0) else (if (t182.length : Int) = 0 then (search_Trace.j0 k l1 a2 t182 true l0_0) else (if 0 ≤ (wrap64 ((t182.length : Int) - 1)) then (if (wrap64 ((t182.length : Int) - 1)) < (t182.length : Int) then (if 0 ≤ a2 then (if a2 < ((rd_L11 t182 (wrap64 ((t182.length : Int) - 1))).length : Int) then (search_Trace.j0 k l1 a2 t182 (!(rdOf false (rd_L11 t182 (wrap64 ((t182.length : Int) - 1))) a2)) l0_0) else (none)) else (none)) else (none)) else (none))))) = some (r1, r2) := H
 have A4 := Aside0.mk A40
 clear A40
 have HC5 := Aside0.mk H
 clear H
 go_enter Try.func34, Try.ntmps34
 go_upto_region 2 with (first | ((with_reducible refine gate_dst (N := 3) rfl ?_); (try (refine gate_guard (by rfl) ?_; dsimp only)); refine box_event ?hg (N := 3) ?hd (cs := #[.slice A0_0 l0_0.length c0_0]) (t := 31) ?hr ?_; (case hd => rfl); (case hg => rfl); (case hr => first | (go_simp; done) | (go_simp; rfl)); intro gb181 hg w6 hbox hb; have n0_ := Aside0.mk (below_step (bs HB.out) hb); have n1_ := Aside0.mk (hbox); have n2_ := Aside0.mk ((by rw [hg]; exact (below_size (bs HB.out)) : w.heap.size ≤ gb181)); have n3_ := n2_; clear HB; have HB := n0_; have BK181 := n1_; have GW181 := n2_; have GE181 := n3_; clear n0_ n1_ n2_ n3_; clear hb hbox hg; have hcz7_0 : w6.cell? ⟨gb181, 0, none⟩ = some (.slice A0_0 l0_0.length c0_0) := (blk_cell BK181.out 0).trans rfl; have hfz7_0 := blk_frozen BK181.out 0) | ((with_reducible refine gate_callee (f := 63) rfl ?_); refine goesL_ (some 15) rfl rfl Try.func63 (by kernel_rfl) rfl #[.agg #[.slice A0_0 l0_0.length c0_0], .slice A1 l1.length c1] rfl (by (try simp only [List.map_toArray, List.map_cons, List.map_nil]); first | done | rfl | (simp only [List.length_drop, List.length_take]; rfl)) ?_; (with_reducible refine (search_layers.calls k _ _ l0_0 _ _ l1 t182 _ ?side1 ?side2 ?side3 ?side4 A4.out).mono ?_); (case side1 => repeat (first | exact (Kd.C_below HR0_0.out HB.out) | (with_reducible refine Kd.C_alloc ?_ _) | (with_reducible refine Kd.C_drewN ?_ _) | (with_reducible refine Kd.C_drew ?_))); (case side2 => exact HC0_0.out); (case side3 => repeat (first | exact (Kd.C_below HR1.out HB.out) | (with_reducible refine Kd.C_alloc ?_ _) | (with_reducible refine Kd.C_drewN ?_ _) | (with_reducible refine Kd.C_drew ?_))); (case side4 => exact HC1.out); rintro e w8 ⟨v183, rfl, ho0, hb⟩; refine ⟨_, rfl, ?_⟩; have n0_ := Aside0.mk (Kd.N_lower (Kd.N_mono (ok' := fun k_ => k_ ≠ gb181) ho0 (fun k_ hk_ => (Kd.freshB (g := gb181) (o := .cells #[.slice A0_0 l0_0.length c0_0] 31 (0, 0)) (bg BK181.out) k_ hk_))) (below_size (bs HB.out))); have n1_ := Aside0.mk (blk_below (bg BK181.out) hb); have n2_ := Aside0.mk (below_step (bs HB.out) hb); clear BK181; clear HB; have HO184 := n0_; have BK181 := n1_; have HB := n2_; clear n0_ n1_ n2_; (try clear hb); (try clear hb2); (try clear hk); (try clear hi); (try clear ho0)))
 (try simp only [Act.put, List.setIfInBounds_toArray, List.set_cons_zero, List.set_cons_succ])
 go_cut [40] (fun v40 wc => ∃ (kq : Nat) (x40_4 : Bool), v40 = .bool x40_4 ∧ Aside0 (search_Trace.j0 kq l1 a2 t182 x40_4 l0_0 = some (r1, r2)) ∧ Aside0 (kq ≤ k) ∧ Aside0 (Kd.N (Kd.slice 4 Kd.bool) 86 wc w.heap.size (fun k_ => k_ ≠ gb181) v183 t182) ∧ Aside0 (wc.heap[gb181]? = some (.cells #[(.slice A0_0 l0_0.length c0_0)] 31 (0, 0))) ∧ Aside0 (Below w.heap.size w wc))
 case first =>
  have H := HC5.out
  clear HC5
  by_cases c9 : a2 < 0
  ·
   rw [if_pos c9] at H
   have c9b0 : decide (a2 < 0) = true := decide_eq_true c9
   clear c9
   (first | rw [c9b0] | (simp only [i64_w, i32_w]; rw [c9b0]) | skip)
   have H' := Aside0.mk H
   clear H
   go_wp2
   go_meet
   case rel => exact ⟨_, (true), (by first | rfl | (simp; done) | (simp [*]; done)), H', ⟨by first | omega | exact Nat.le_refl _⟩, ⟨by (with_reducible repeat (first | apply Kd.N_alloc | apply Kd.N_drewN | apply Kd.N_drew)); exact HO184.out⟩, ⟨bg BK181.out⟩, ⟨bs HB.out⟩⟩
  ·
   rw [if_neg c9] at H
   have c9b0 : decide (a2 < 0) = false := decide_eq_false c9
   clear c9
   (first | rw [c9b0] | (simp only [i64_w, i32_w]; rw [c9b0]) | skip)
   by_cases c10 : a2 ≥ (l1.length : Int)
   ·
    rw [if_pos c10] at H
    have c10b0 : decide ((l1.length : Int) ≤ a2) = true := decide_eq_true c10
    clear c10
    have H' := Aside0.mk H
    clear H
    go_wp2
    go_meet
    case rel => exact ⟨_, (true), (by first | rfl | (simp; done) | (simp [*]; done)), H', ⟨by first | omega | exact Nat.le_refl _⟩, ⟨by (with_reducible repeat (first | apply Kd.N_alloc | apply Kd.N_drewN | apply Kd.N_drew)); exact HO184.out⟩, ⟨bg BK181.out⟩, ⟨bs HB.out⟩⟩
   ·
    rw [if_neg c10] at H
    have c10b0 : decide ((l1.length : Int) ≤ a2) = false := decide_eq_false c10
    clear c10
    by_cases c11 : (t182.length : Int) = 0
    ·
     rw [if_pos c11] at H
     have c11b0 : ((t182.length : Int) == 0) = true := beq_iff_eq.mpr c11
     have c11b1 : ((t182.length : Int) != 0) = false := bne_eq_false_iff_eq.mpr c11
     clear c11
     have H' := Aside0.mk H
     clear H
     obtain ⟨Ao12, co12, eo12⟩ := Kd.N_slice HO184.out
     subst eo12
     go_wp2
     go_meet
     case rel => exact ⟨_, (true), (by first | rfl | (simp; done) | (simp [*]; done)), H', ⟨by first | omega | exact Nat.le_refl _⟩, ⟨by (with_reducible repeat (first | apply Kd.N_alloc | apply Kd.N_drewN | apply Kd.N_drew)); exact HO184.out⟩, ⟨bg BK181.out⟩, ⟨bs HB.out⟩⟩
    ·
     rw [if_neg c11] at H
     have c11b0 : ((t182.length : Int) == 0) = false := beq_eq_false_iff_ne.mpr c11
     have c11b1 : ((t182.length : Int) != 0) = true := bne_iff_ne.mpr c11
     have c11b2 : ¬ (t182 = []) := fun h_ => c11 (by rw [h_]; rfl)
     obtain ⟨ji13, hji13⟩ : ∃ j_ : Int, (wrap64 ((t182.length : Int) - 1)) = j_ := ⟨_, rfl⟩
     replace H : (if 0 ≤ (ji13) then (if (ji13) < (t182.length : Int) then (if 0 ≤ a2 then (if a2 < ((rd_L11 t182 (ji13)).length : Int) then (search_Trace.j0 k l1 a2 t182 (!(rdOf false (rd_L11 t182 (ji13)) a2)) l0_0) else (none)) else (none)) else (none)) else (none)) = some (r1, r2) := by first | (rw [hji13] at H; exact H) | (simp only [hji13] at H ⊢; exact H)
     have hji13w : (IntKind.i64.wrap ((t182.length : Int) - 1)) = ji13 := (i64_w _).trans hji13
     by_cases c14 : 0 ≤ (ji13)
     ·
      rw [if_pos c14] at H
      have c14b0 : decide (0 ≤ (ji13)) = true := decide_eq_true c14
      clear c14
      by_cases c15 : (ji13) < (t182.length : Int)
      ·
       rw [if_pos c15] at H
       have c15b0 : decide ((ji13) < (t182.length : Int)) = true := decide_eq_true c15
       clear c15
       by_cases c16 : 0 ≤ a2
       ·
        rw [if_pos c16] at H
        have c16b0 : decide (0 ≤ a2) = true := decide_eq_true c16
        clear c16
        by_cases c17 : a2 < ((rd_L11 t182 (ji13)).length : Int)
        ·
         rw [if_pos c17] at H
         have c17b0 : decide (a2 < ((rd_L11 t182 (ji13)).length : Int)) = true := decide_eq_true c17
         clear c17
         have H' := Aside0.mk H
         clear H
         obtain ⟨Ao18, co18, eo18⟩ := Kd.N_slice HO184.out
         subst eo18
         have p185 : 0 ≤ ((ji13) : Int) := of_decide_eq_true (by first | (with_reducible assumption) | assumption)
         have q185 : (ji13) < (t182.length : Int) := of_decide_eq_true (by first | (with_reducible assumption) | assumption)
         obtain ⟨ad185, A185_0, c185_0, e185, hx185_0, hl185_0, hi185_0⟩ := at_L11 (Kd.N_reads' HO184.out).2.2 (ji13) p185 q185
         cases e185
         obtain ⟨ce185, hce185, hMe185, hcc185⟩ := Kd.N_get HO184.out [] (ji13) p185 (by first | exact q185 | exact of_decide_eq_true (by first | (with_reducible assumption) | assumption) | (have e_ := (Kd.N_reads' HO184.out).1; omega))
         obtain ⟨ua185_0, uc185_0, rfl, ul185_0, ge185_0⟩ := Kd.FK_slice_open hMe185
         have hv185_0 := hcc185 0 _ rfl
         rw [Nat.add_zero, show ((Kd.slice 4 Kd.bool)).sz = 1 from rfl, Nat.mul_one] at hv185_0
         replace hv185_0 := Option.some.inj (hv185_0.symm.trans hx185_0)
         injection hv185_0 with hva_ hvn_ hvc_
         rw [hva_] at ge185_0
         rw [hvc_] at ul185_0
         have HL185_0 := Aside0.mk (show Kd.V Kd.bool 4 _ w.heap.size _ _ (rd_L11 t182 (ji13)) from Kd.V_mk ul185_0 ge185_0)
         clear hva_ hvn_ hvc_ ge185_0 ul185_0
         clear hcc185 hce185
         have HR185_0 := Aside0.mk hi185_0
         have HC185_0 := Aside0.mk hl185_0
         clear hi185_0 hl185_0
         replace p185 := eq_true p185
         replace q185 := eq_true q185
         have p186 : 0 ≤ (a2 : Int) := of_decide_eq_true (by first | (with_reducible assumption) | assumption)
         have q186 : a2 < ((rd_L11 t182 (ji13)).length : Int) := of_decide_eq_true (by first | (with_reducible assumption) | assumption)
         obtain ⟨ad186, e186, hx186_0⟩ := Kd.at_bool (by repeat (first | (with_reducible exact HR185_0.out) | (with_reducible refine Kd.C_alloc ?_ _) | (with_reducible refine Kd.C_drewN ?_ _) | (with_reducible refine Kd.C_drew ?_) | exact HR185_0.out)) a2 p186 q186
         cases e186
         replace p186 := eq_true p186
         replace q186 := eq_true q186
         go_wp2
         go_meet
         case rel => exact ⟨_, (!(rdOf false (rd_L11 t182 (ji13)) a2)), (by first | rfl | (simp; done) | (simp only [← hji13] <;> (first | rfl | simp)) | (simp [*]; done)), H', ⟨by first | omega | exact Nat.le_refl _⟩, ⟨by (with_reducible repeat (first | apply Kd.N_alloc | apply Kd.N_drewN | apply Kd.N_drew)); exact HO184.out⟩, ⟨bg BK181.out⟩, ⟨bs HB.out⟩⟩
        ·
         rw [if_neg c17] at H
         exact absurd H (by simp)
       ·
        rw [if_neg c16] at H
        exact absurd H (by simp)
      ·
       rw [if_neg c15] at H
       exact absurd H (by simp)
     ·
      rw [if_neg c14] at H
      exact absurd H (by simp)
 case rest =>
  clear HC5
  try clear c1
  try clear p1
  try clear q1
  try clear hx1
  try clear p2
  try clear c3
  try clear c6
  try clear p6
  try clear c9
  try clear c9b0
  try clear c10
  try clear c10b0
  try clear c11
  try clear c11b0
  try clear c11b1
  try clear c11b2
  try clear c14
  try clear c14b0
  try clear c15
  try clear c15b0
  try clear c16
  try clear c16b0
  try clear c17
  try clear c17b0
  try clear c18
  try clear p18
  try clear q18
  try clear hx18
  try clear hcz7_0
  try clear hfz7_0
  try clear hx185_0
  try clear hx186_0
  try clear p185
  try clear p186
  try clear q185
  try clear q186
  obtain ⟨kq, x40_4, rfl, HA, HJ4, HO_8, BK181, HB⟩ := hcut
  cases kq with
  | zero => exact absurd HA.out (by simp [search_Trace.j0])
  | succ kj4 =>
   have H := HA.out
   clear HA
   simp only [search_Trace.j0] at H
   by_cases c19 : x40_4 = true
   ·
    subst c19
    have H1 : (some (([] : List Int), false)) = some (r1, r2) := by rw [if_pos rfl] at H; exact H
    clear H
    have H := H1
    clear H1
    simp only [Option.some.injEq, Prod.mk.injEq] at H
    obtain ⟨rfl, rfl⟩ := H
    go_wp2
    go_ret2
    exact ⟨_, by first | rfl | (simp [errW_none, errW_some] <;> rfl) | (simp [*, errW_none, errW_some] <;> rfl), by first | exact Kd.R_nil _ _ _ _ _ | exact Kd.N_nil _ _ _ _ _ | exact Kd.V_nil _ _ _ _ _ | exact Kd.Q_nil _ _ _ _ _ | exact Kd.S_nil _ _ _ _ _, bs HB.out⟩
   ·
    replace c19 := Bool.eq_false_iff.mpr c19
    subst c19
    have H1 : (if 0 ≤ (t182.length : Int) then (if ((t182.length : Int) : Int).toNat ≤ 35184372088832 then ((some (List.replicate ((t182.length : Int) : Int).toNat 0 : List Int)).bind fun y187 => (if 0 ≤ (wrap64 ((t182.length : Int) - 1)) then (if (wrap64 ((t182.length : Int) - 1)) < (y187.length : Int) then (search_Trace.l0 kj4 l1 t182 (y187.set ((wrap64 ((t182.length : Int) - 1)) : Int).toNat a2) (wrap64 ((t182.length : Int) - 1)) l0_0) else (none)) else (none))) else (none)) else (none)) = some (r1, r2) := by rw [if_neg (show ¬ (false = true) by decide)] at H; exact H
    clear H
    have H := H1
    clear H1
    by_cases c20 : 0 ≤ (t182.length : Int)
    ·
     rw [if_pos c20] at H
     have c20b0 := eq_true c20
     have c20b1 : decide (0 ≤ (t182.length : Int)) = true := decide_eq_true c20
     clear c20
     by_cases c21 : ((t182.length : Int) : Int).toNat ≤ 35184372088832
     ·
      rw [if_pos c21] at H
      have c21b0 := eq_true c21
      have c21b1 : decide (((t182.length : Int) : Int).toNat ≤ 35184372088832) = true := decide_eq_true c21
      clear c21
      obtain ⟨y187, hy187⟩ : ∃ y_ : List Int, y_ = (List.replicate ((t182.length : Int) : Int).toNat 0) := ⟨_, rfl⟩
      replace H : (if 0 ≤ (wrap64 ((t182.length : Int) - 1)) then (if (wrap64 ((t182.length : Int) - 1)) < (y187.length : Int) then (search_Trace.l0 kj4 l1 t182 (y187.set ((wrap64 ((t182.length : Int) - 1)) : Int).toNat a2) (wrap64 ((t182.length : Int) - 1)) l0_0) else (none)) else (none)) = some (r1, r2) := by first | (rw [hy187]; with_reducible exact H) | (have H2_ := (Option.bind_some _ _).symm.trans H; rw [hy187]; with_reducible exact H2_) | (have H2_ := (Option.bind_some _ _).symm.trans H; with_reducible exact H2_) | with_reducible exact H | (rw [hy187]; exact H) | exact H
      have Ny187 := Aside0.mk hy187
      clear hy187
      obtain ⟨ji22, hji22⟩ : ∃ j_ : Int, (wrap64 ((t182.length : Int) - 1)) = j_ := ⟨_, rfl⟩
      replace H : (if 0 ≤ (ji22) then (if (ji22) < (y187.length : Int) then (search_Trace.l0 kj4 l1 t182 (y187.set ((ji22) : Int).toNat a2) ji22 l0_0) else (none)) else (none)) = some (r1, r2) := by first | (rw [hji22] at H; exact H) | (simp only [hji22] at H ⊢; exact H)
      have hji22w : (IntKind.i64.wrap ((t182.length : Int) - 1)) = ji22 := (i64_w _).trans hji22
      by_cases c23 : 0 ≤ (ji22)
      ·
       rw [if_pos c23] at H
       have c23b0 : decide (0 ≤ (ji22)) = true := decide_eq_true c23
       clear c23
       by_cases c24 : (ji22) < (y187.length : Int)
       ·
        rw [if_pos c24] at H
        have c24b0 : decide ((ji22) < (y187.length : Int)) = true := decide_eq_true c24
        clear c24
        obtain ⟨y190, hy190⟩ : ∃ y_ : List Int, y_ = (y187.set ((ji22) : Int).toNat a2) := ⟨_, rfl⟩
        replace H : (search_Trace.l0 kj4 l1 t182 y190 ji22 l0_0) = some (r1, r2) := by first | (rw [hy190]; with_reducible exact H) | (have H2_ := (Option.bind_some _ _).symm.trans H; rw [hy190]; with_reducible exact H2_) | (have H2_ := (Option.bind_some _ _).symm.trans H; with_reducible exact H2_) | with_reducible exact H | (rw [hy190]; exact H) | exact H
        have Ny190 := Aside0.mk hy190
        clear hy190
        have H' := Aside0.mk H
        clear H
        obtain ⟨Ao26, co26, eo26⟩ := Kd.N_slice HO_8.out
        subst eo26
        go_wp2_with (first | ((with_reducible refine gate_dst (N := 43) rfl ?_); (try (refine gate_guard (by rfl) ?_; dsimp only)); refine Kd.R_make (Kd.int .i64) _ 3 rfl (N := 43) rfl 52 _ _ rfl (t182.length : Int) rfl rfl Try.underlying52 (.int .i64 0) 8 info3 rfl (by decide) (by omega) 0 (ok := fun _ => True) (okp := fun _ => True) rfl (fun _ hk => hk) trivial (of_decide_eq_true (by first | (with_reducible assumption) | assumption)) (Nat.le_trans (Nat.mul_le_mul_right _ (of_decide_eq_true (by first | (with_reducible assumption) | assumption) : (t182.length : Int).toNat ≤ 35184372088832)) (by omega)) (Below.refl _ _) (Nat.le_refl _) ?_; intro v188 w27 ho28 hb hg_ hnew_; clear hg_ hnew_; (first | rw [← Ny187.out] at ho28 | (simp only [Int.reduceToNat] at ho28; rw [← Ny187.out] at ho28)); have n0_ := Aside0.mk (Kd.N_elder' (by (with_reducible repeat (first | apply Kd.N_alloc | apply Kd.N_drewN | apply Kd.N_drew)); exact HO_8.out) (Kd.R_base ho28) hb); have n1_ := Aside0.mk (Kd.R_lower ho28 (below_size (bs HB.out))); have n2_ := Aside0.mk (blk_below (bg BK181.out) hb); have n3_ := Aside0.mk (below_step (bs HB.out) hb); clear HO_8; clear BK181; clear HB; have HO_8 := n0_; have HO189 := n1_; have BK181 := n2_; have HB := n3_; clear n0_ n1_ n2_ n3_; clear hb ho28; have p25 : 0 ≤ ((ji22) : Int) := of_decide_eq_true (by first | (with_reducible assumption) | assumption); have q25 : ((ji22) : Int) < ((y187.length : Int) : Int) := of_decide_eq_true (by first | (with_reducible assumption) | assumption); obtain ⟨go25, co25, eo25, gb25, gl25, cl25, HG25⟩ := Kd.R_form HO189.out (by omega); (first | cases eo25 | (injection eo25 with ea_ en_ ec_; (first | subst ea_ | (injection ea_ with ea_; subst ea_)); subst ec_; clear en_)); have GB25 := Aside0.mk gb25; have GG25 := Aside0.mk HG25; clear gb25 gl25 HG25; obtain ⟨hx25_0, hf25_0⟩ := Kd.R_celln 0 HO189.out ((ji22) : Int) p25 q25; replace p25 := eq_true p25; replace q25 := eq_true q25; obtain ⟨hy29_, hz29_⟩ := Kd.R_celln 0 HO189.out ((ji22) : Int) (of_decide_eq_true (by first | (with_reducible assumption) | assumption)) (of_decide_eq_true (by first | (with_reducible assumption) | assumption)); have HP29 := Kd.R_putg HO189.out ((ji22) : Int) a2) | ((with_reducible refine gate_store (t := 3) (p := 49) rfl ?_); refine store_event (t := 3) (p := 49) (v := ?vo_w30) (w1 := (w27.setCell ⟨go25, ((ji22) : Int).toNat, none⟩ (.int .i64 a2))) ?hg ?ho ?hn ?hr ?_; (case ho => rfl); (case hg => rfl); (case hn => rfl); (case hr => first | (go_simp; done) | (go_simp; rfl)); intro w30 hw; have hg : w27.grownBy w30 (some go25) := (by rw [hw]; exact HP29.2); have hp_ : Kd.R (Kd.int .i64) 3 w30 w.heap.size (fun _ => True) (.slice (some ⟨go25, 0, none⟩) y187.length co25) y190 := (by rw [hw, Ny190.out]; exact HP29.1); clear HP29; have n0_ := Aside0.mk (Kd.N_afterv (v := (.slice (some ⟨go25, 0, none⟩) y187.length co25)) (v1 := (.slice (some ⟨go25, 0, none⟩) y187.length co25)) (ok := (fun k_ => k_ ≠ gb181)) (by (with_reducible repeat (first | apply Kd.N_alloc | apply Kd.N_drewN | apply Kd.N_drew)); exact HO_8.out) hg (.inl rfl)); have n1_ := Aside0.mk (blk_grown (g := gb181) (o := .cells #[.slice A0_0 l0_0.length c0_0] 31 (0, 0)) (bg BK181.out) hg (Kd.R_ne HO189.out BK181.out (by decide))); have n2_ := Aside0.mk (hp_); have n3_ := Aside0.mk ((by rw [hw]; exact below_set (HB.out) GB25.out : Below w.heap.size w w30)); clear HO_8; clear BK181; clear HO189; clear HB; have HO_8 := n0_; have BK181 := n1_; have HO189 := n2_; have HB := n3_; clear n0_ n1_ n2_ n3_; clear hg hw hp_))
        go_loopg [10] kj4 (fun kq v10 w' => ∃ (x9_2 : List Int) (x10_2 : Int), v10 = .int .i64 x10_2 ∧ Aside0 (search_Trace.l0 kq l1 t182 x9_2 x10_2 l0_0 = some (r1, r2)) ∧ Aside0 (kq ≤ kj4) ∧ Aside0 (Kd.N (Kd.slice 4 Kd.bool) 86 w' w.heap.size (fun k_ => some k_ ≠ ((.slice (some ⟨go25, 0, none⟩) y187.length co25) : Value).ownBlock ∧ k_ ≠ gb181) (.slice Ao26 t182.length co26) t182) ∧ Aside0 (Kd.R (Kd.int .i64) 3 w' w.heap.size (fun _ => True) (.slice (some ⟨go25, 0, none⟩) y187.length co25) x9_2) ∧ Aside0 (w'.heap[gb181]? = some (.cells #[(.slice A0_0 l0_0.length c0_0)] 31 (0, 0))) ∧ Aside0 (Below w.heap.size w w'))
        case atStart => exact ⟨(y190), (ji22), (by first | rfl | (simp; done) | (simp only [← hji22] <;> (first | rfl | simp)) | (simp [*]; done)), H', ⟨Nat.le_refl _⟩, ⟨by (with_reducible repeat (first | apply Kd.N_alloc | apply Kd.N_drewN | apply Kd.N_drew)); exact Kd.N_mono HO_8.out (fun _ hk => ⟨hk.2, hk.1⟩)⟩, ⟨by (with_reducible repeat (first | apply Kd.R_alloc | apply Kd.R_drewN | apply Kd.R_drew)); exact HO189.out⟩, ⟨bg BK181.out⟩, ⟨bs HB.out⟩⟩
        case round =>
         clear H'
         try clear c1
         try clear p1
         try clear q1
         try clear hx1
         try clear c2
         try clear p2
         try clear q2
         try clear hx2
         try clear c3
         try clear c6
         try clear p6
         try clear c9
         try clear c9b0
         try clear c10
         try clear c10b0
         try clear c11
         try clear c11b0
         try clear c11b1
         try clear c11b2
         try clear c14
         try clear c14b0
         try clear c15
         try clear c15b0
         try clear c16
         try clear c16b0
         try clear c17
         try clear c17b0
         try clear c18
         try clear p18
         try clear q18
         try clear hx18
         try clear c19
         try clear c20
         try clear c20b0
         try clear c20b1
         try clear c21
         try clear c21b0
         try clear c21b1
         try clear c23
         try clear c23b0
         try clear c24
         try clear c24b0
         try clear p25
         try clear q25
         try clear hx25
         try clear hf25
         try clear hcz7_0
         try clear hfz7_0
         try clear hx185_0
         try clear hx186_0
         try clear hx25_0
         try clear p1
         try clear p18
         try clear p185
         try clear p186
         try clear p2
         try clear p25
         try clear p6
         try clear q1
         try clear q18
         try clear q185
         try clear q186
         try clear q25
         obtain ⟨x9_2, x10_2, rfl, HA, HK2, HO_8, HO_9, BK181, HB⟩ := hrel
         have hl9_2 := (Kd.R_reads' HO_9.out).1
         rw [hl9_2] at HO_9
         (try simp only [hl9_2])
         (try simp only [hl9_2] at BK181)
         (try simp only [hl9_2] at HO_8)
         cases gk with
         | zero => exact absurd HA.out (by simp [search_Trace.l0])
         | succ k2 =>
          have H := HA.out
          clear HA
          simp only [search_Trace.l0] at H
          by_cases c31 : x10_2 > 0
          ·
           rw [if_pos c31] at H
           have c31b0 : decide (0 < x10_2) = true := decide_eq_true c31
           clear c31
           by_cases c32 : 0 ≤ x10_2
           ·
            rw [if_pos c32] at H
            have c32b0 : decide (0 ≤ x10_2) = true := decide_eq_true c32
            clear c32
            by_cases c33 : x10_2 < (l0_0.length : Int)
            ·
             rw [if_pos c33] at H
             have c33b0 : decide (x10_2 < (l0_0.length : Int)) = true := decide_eq_true c33
             clear c33
             by_cases c34 : x10_2 < (x9_2.length : Int)
             ·
              rw [if_pos c34] at H
              have c34b0 : decide (x10_2 < (x9_2.length : Int)) = true := decide_eq_true c34
              clear c34
              have H' := Aside0.mk H
              clear H
              have hcz35_0 : wr.cell? ⟨gb181, 0, none⟩ = some (.slice A0_0 l0_0.length c0_0) := (blk_cell BK181.out 0).trans rfl
              have hfz35_0 := blk_frozen BK181.out 0
              have p191 : 0 ≤ (x10_2 : Int) := of_decide_eq_true (by first | (with_reducible assumption) | assumption)
              have q191 : x10_2 < (l0_0.length : Int) := of_decide_eq_true (by first | (with_reducible assumption) | assumption)
              obtain ⟨ad191, e191, hx191_0, hx191_1, hx191_2, hx191_3, hx191_4, hx191_5, hx191_6, hx191_7, hx191_8, hx191_9, hx191_10, hx191_11⟩ := at_T50 HR0_0.out x10_2 p191 q191
              cases e191
              replace hx191_0 := pw_cell_below HB.out hx191_0
              replace hx191_1 := pw_cell_below HB.out hx191_1
              replace hx191_2 := pw_cell_below HB.out hx191_2
              replace hx191_3 := pw_cell_below HB.out hx191_3
              replace hx191_4 := pw_cell_below HB.out hx191_4
              replace hx191_5 := pw_cell_below HB.out hx191_5
              replace hx191_6 := pw_cell_below HB.out hx191_6
              replace hx191_7 := pw_cell_below HB.out hx191_7
              replace hx191_8 := pw_cell_below HB.out hx191_8
              replace hx191_9 := pw_cell_below HB.out hx191_9
              replace hx191_10 := pw_cell_below HB.out hx191_10
              replace hx191_11 := pw_cell_below HB.out hx191_11
              replace p191 := eq_true p191
              replace q191 := eq_true q191
              go_wp2_with (first | ((with_reducible refine gate_dst (N := 11) rfl ?_); (try (refine gate_guard (by rfl) ?_; dsimp only)); refine box_event ?hg (N := 11) ?hd (cs := #[.int .i64 0, .int .i64 0, .int .i64 0, .int .i64 0, .int .i64 0, .int .i64 0, .bool false, .int .i64 0, .int .i64 0, .int .i64 0, .int .i64 0, .int .i64 0]) (t := 50) ?hr ?_; (case hd => rfl); (case hg => rfl); (case hr => first | (go_simp; done) | (go_simp; rfl)); intro gb192 hg w36 hbox hb; have n0_ := Aside0.mk (Kd.N_below (Kd.N_elderB (by (with_reducible repeat (first | apply Kd.N_alloc | apply Kd.N_drewN | apply Kd.N_drew)); exact HO_8.out) gb192 (Nat.le_of_eq hg.symm)) hb); have n1_ := Aside0.mk (Kd.R_below (rq HO_9.out) hb); have n2_ := Aside0.mk (blk_below (bg BK181.out) hb); have n3_ := Aside0.mk (below_step (bs HB.out) hb); have n4_ := Aside0.mk (hbox); have n5_ := Aside0.mk ((by rw [hg]; exact (below_size (bs HB.out)) : w.heap.size ≤ gb192)); have n6_ := n5_; have n7_ := Aside0.mk ((by rw [hg]; exact Nat.ne_of_lt (blk_lt (bg BK181.out)) : gb181 ≠ gb192)); have n8_ := Aside0.mk ((by rw [hg]; exact Nat.ne_of_gt (blk_lt (bg BK181.out)) : gb192 ≠ gb181)); clear HO_8; clear HO_9; clear BK181; clear HB; have HO_8 := n0_; have HO_9 := n1_; have BK181 := n2_; have HB := n3_; have BK192 := n4_; have GW192 := n5_; have GE192 := n6_; have NB181_192 := n7_; have NB192_181 := n8_; clear n0_ n1_ n2_ n3_ n4_ n5_ n6_ n7_ n8_; clear hb hbox hg; have hnb37 := NB192_181.out; have hnc37 := NB181_192.out; obtain ⟨hcz38_0, hcz38_1, hcz38_2, hcz38_3, hcz38_4, hcz38_5, hcz38_6, hcz38_7, hcz38_8, hcz38_9, hcz38_10, hcz38_11⟩ := bc12 BK192.out; obtain ⟨hfz38_0, hfz38_1, hfz38_2, hfz38_3, hfz38_4, hfz38_5, hfz38_6, hfz38_7, hfz38_8, hfz38_9, hfz38_10, hfz38_11⟩ := bf12 BK192.out; have p193 : 0 ≤ (x10_2 : Int) := of_decide_eq_true (by first | (with_reducible assumption) | assumption); have q193 : x10_2 < (x9_2.length : Int) := of_decide_eq_true (by first | (with_reducible assumption) | assumption); obtain ⟨ad193, e193, hx193_0⟩ := Kd.at_int (Kd.R_reads' HO_9.out).2.2 x10_2 p193 q193; obtain rfl : (⟨go25, 0, none⟩ : Addr) = ad193 := (by injection e193); (first | simp only [add_plain] at hx193_0 | simp only [add_at] at hx193_0 | simp only [Addr.add, Nat.zero_add] at hx193_0 | skip); have hn193_0 : (⟨go25, 0, none⟩ : Addr).block ≠ gb192 := Kd.own_blk (Kd.R_ne HO_9.out BK192.out (by decide)); have hn193_1 : (⟨go25, 0, none⟩ : Addr).block ≠ gb192 := Kd.own_blk (Kd.R_ne HO_9.out BK192.out (by decide)); have hn193_2 : (⟨go25, 0, none⟩ : Addr).block ≠ gb192 := Kd.own_blk (Kd.R_ne HO_9.out BK192.out (by decide)); have hn193_3 : (⟨go25, 0, none⟩ : Addr).block ≠ gb192 := Kd.own_blk (Kd.R_ne HO_9.out BK192.out (by decide)); have hn193_4 : (⟨go25, 0, none⟩ : Addr).block ≠ gb192 := Kd.own_blk (Kd.R_ne HO_9.out BK192.out (by decide)); have hn193_5 : (⟨go25, 0, none⟩ : Addr).block ≠ gb192 := Kd.own_blk (Kd.R_ne HO_9.out BK192.out (by decide)); have hn193_6 : (⟨go25, 0, none⟩ : Addr).block ≠ gb192 := Kd.own_blk (Kd.R_ne HO_9.out BK192.out (by decide)); have hn193_7 : (⟨go25, 0, none⟩ : Addr).block ≠ gb192 := Kd.own_blk (Kd.R_ne HO_9.out BK192.out (by decide)); have hn193_8 : (⟨go25, 0, none⟩ : Addr).block ≠ gb192 := Kd.own_blk (Kd.R_ne HO_9.out BK192.out (by decide)); have hn193_9 : (⟨go25, 0, none⟩ : Addr).block ≠ gb192 := Kd.own_blk (Kd.R_ne HO_9.out BK192.out (by decide)); have hn193_10 : (⟨go25, 0, none⟩ : Addr).block ≠ gb192 := Kd.own_blk (Kd.R_ne HO_9.out BK192.out (by decide)); have hn193_11 : (⟨go25, 0, none⟩ : Addr).block ≠ gb192 := Kd.own_blk (Kd.R_ne HO_9.out BK192.out (by decide)); replace hx193_0 := (cell_far (p := ⟨gb192, 0, none⟩) (by first | (rw [add_block]; exact hn193_0) | (show (Addr.add _ _).block ≠ _; rw [add_block]; exact hn193_0) | exact hn193_0) (.int .i64 ((rd_T50 l0_0 x10_2).f0.f0))).trans hx193_0; replace hx193_0 := (cell_far (p := ⟨gb192, 1, none⟩) (by first | (rw [add_block]; exact hn193_1) | (show (Addr.add _ _).block ≠ _; rw [add_block]; exact hn193_1) | exact hn193_1) (.int .i64 ((rd_T50 l0_0 x10_2).f0.f1))).trans hx193_0; replace hx193_0 := (cell_far (p := ⟨gb192, 2, none⟩) (by first | (rw [add_block]; exact hn193_2) | (show (Addr.add _ _).block ≠ _; rw [add_block]; exact hn193_2) | exact hn193_2) (.int .i64 ((rd_T50 l0_0 x10_2).f0.f2))).trans hx193_0; replace hx193_0 := (cell_far (p := ⟨gb192, 3, none⟩) (by first | (rw [add_block]; exact hn193_3) | (show (Addr.add _ _).block ≠ _; rw [add_block]; exact hn193_3) | exact hn193_3) (.int .i64 ((rd_T50 l0_0 x10_2).f0.f3))).trans hx193_0; replace hx193_0 := (cell_far (p := ⟨gb192, 4, none⟩) (by first | (rw [add_block]; exact hn193_4) | (show (Addr.add _ _).block ≠ _; rw [add_block]; exact hn193_4) | exact hn193_4) (.int .i64 ((rd_T50 l0_0 x10_2).f0.f4))).trans hx193_0; replace hx193_0 := (cell_far (p := ⟨gb192, 5, none⟩) (by first | (rw [add_block]; exact hn193_5) | (show (Addr.add _ _).block ≠ _; rw [add_block]; exact hn193_5) | exact hn193_5) (.int .i64 ((rd_T50 l0_0 x10_2).f1))).trans hx193_0; replace hx193_0 := (cell_far (p := ⟨gb192, 6, none⟩) (by first | (rw [add_block]; exact hn193_6) | (show (Addr.add _ _).block ≠ _; rw [add_block]; exact hn193_6) | exact hn193_6) (.bool ((rd_T50 l0_0 x10_2).f2))).trans hx193_0; replace hx193_0 := (cell_far (p := ⟨gb192, 7, none⟩) (by first | (rw [add_block]; exact hn193_7) | (show (Addr.add _ _).block ≠ _; rw [add_block]; exact hn193_7) | exact hn193_7) (.int .i64 ((rd_T50 l0_0 x10_2).f3.f0))).trans hx193_0; replace hx193_0 := (cell_far (p := ⟨gb192, 8, none⟩) (by first | (rw [add_block]; exact hn193_8) | (show (Addr.add _ _).block ≠ _; rw [add_block]; exact hn193_8) | exact hn193_8) (.int .i64 ((rd_T50 l0_0 x10_2).f3.f1))).trans hx193_0; replace hx193_0 := (cell_far (p := ⟨gb192, 9, none⟩) (by first | (rw [add_block]; exact hn193_9) | (show (Addr.add _ _).block ≠ _; rw [add_block]; exact hn193_9) | exact hn193_9) (.int .i64 ((rd_T50 l0_0 x10_2).f3.f2))).trans hx193_0; replace hx193_0 := (cell_far (p := ⟨gb192, 10, none⟩) (by first | (rw [add_block]; exact hn193_10) | (show (Addr.add _ _).block ≠ _; rw [add_block]; exact hn193_10) | exact hn193_10) (.int .i64 ((rd_T50 l0_0 x10_2).f3.f3))).trans hx193_0; replace hx193_0 := (cell_far (p := ⟨gb192, 11, none⟩) (by first | (rw [add_block]; exact hn193_11) | (show (Addr.add _ _).block ≠ _; rw [add_block]; exact hn193_11) | exact hn193_11) (.int .i64 ((rd_T50 l0_0 x10_2).f3.f4))).trans hx193_0; clear hn193_0; clear hn193_1; clear hn193_2; clear hn193_3; clear hn193_4; clear hn193_5; clear hn193_6; clear hn193_7; clear hn193_8; clear hn193_9; clear hn193_10; clear hn193_11; replace p193 := eq_true p193; replace q193 := eq_true q193))
              go_loopg [12] k2 (fun kq v12 w' => ∃ (x12_3 : Int), v12 = .int .i64 x12_3 ∧ Aside0 (search_Trace.l1 kq l1 t182 x9_2 x10_2 x12_3 l0_0 ((rd_T50 l0_0 x10_2).f0.f0) ((rd_T50 l0_0 x10_2).f0.f1) ((rd_T50 l0_0 x10_2).f0.f2) ((rd_T50 l0_0 x10_2).f0.f3) ((rd_T50 l0_0 x10_2).f0.f4) ((rd_T50 l0_0 x10_2).f1) ((rd_T50 l0_0 x10_2).f2) ((rd_T50 l0_0 x10_2).f3.f0) ((rd_T50 l0_0 x10_2).f3.f1) ((rd_T50 l0_0 x10_2).f3.f2) ((rd_T50 l0_0 x10_2).f3.f3) ((rd_T50 l0_0 x10_2).f3.f4) = some (r1, r2)) ∧ Aside0 (kq ≤ k2) ∧ Aside0 (Kd.N (Kd.slice 4 Kd.bool) 86 w' w.heap.size (fun k_ => some k_ ≠ ((.slice (some ⟨go25, 0, none⟩) x9_2.length co25) : Value).ownBlock ∧ k_ ≠ gb181 ∧ k_ ≠ gb192) (.slice Ao26 t182.length co26) t182) ∧ Aside0 (Kd.R (Kd.int .i64) 3 w' w.heap.size (fun _ => True) (.slice (some ⟨go25, 0, none⟩) x9_2.length co25) x9_2) ∧ Aside0 (w'.heap[gb181]? = some (.cells #[(.slice (some ad191) l0_0.length c0_0)] 31 (0, 0))) ∧ Aside0 (w'.heap[gb192]? = some (.cells #[.int .i64 ((rd_T50 l0_0 x10_2).f0.f0), .int .i64 ((rd_T50 l0_0 x10_2).f0.f1), .int .i64 ((rd_T50 l0_0 x10_2).f0.f2), .int .i64 ((rd_T50 l0_0 x10_2).f0.f3), .int .i64 ((rd_T50 l0_0 x10_2).f0.f4), .int .i64 ((rd_T50 l0_0 x10_2).f1), .bool ((rd_T50 l0_0 x10_2).f2), .int .i64 ((rd_T50 l0_0 x10_2).f3.f0), .int .i64 ((rd_T50 l0_0 x10_2).f3.f1), .int .i64 ((rd_T50 l0_0 x10_2).f3.f2), .int .i64 ((rd_T50 l0_0 x10_2).f3.f3), .int .i64 ((rd_T50 l0_0 x10_2).f3.f4)] 50 (0, 0))) ∧ Aside0 (Below w.heap.size w w'))
              case atStart => exact ⟨(wrap64 ((rd x9_2 x10_2) - 1)), (by first | rfl | (simp; done) | (simp [*]; done)), H', ⟨Nat.le_refl _⟩, ⟨by (try simp only [hl9_2]); (with_reducible repeat (first | apply Kd.N_alloc | apply Kd.N_drewN | apply Kd.N_drew)); exact Kd.N_mono (Kd.N_far (p := ⟨gb192, 11, none⟩) (Kd.N_far (p := ⟨gb192, 10, none⟩) (Kd.N_far (p := ⟨gb192, 9, none⟩) (Kd.N_far (p := ⟨gb192, 8, none⟩) (Kd.N_far (p := ⟨gb192, 7, none⟩) (Kd.N_far (p := ⟨gb192, 6, none⟩) (Kd.N_far (p := ⟨gb192, 5, none⟩) (Kd.N_far (p := ⟨gb192, 4, none⟩) (Kd.N_far (p := ⟨gb192, 3, none⟩) (Kd.N_far (p := ⟨gb192, 2, none⟩) (Kd.N_far (p := ⟨gb192, 1, none⟩) (Kd.N_far (p := ⟨gb192, 0, none⟩) (Kd.N_mono HO_8.out (fun k_ hk => (⟨hk, hk.2⟩ : _ ∧ k_ ≠ gb192))) (fun _ hk => hk.2) (.int .i64 ((rd_T50 l0_0 x10_2).f0.f0))) (fun _ hk => hk.2) (.int .i64 ((rd_T50 l0_0 x10_2).f0.f1))) (fun _ hk => hk.2) (.int .i64 ((rd_T50 l0_0 x10_2).f0.f2))) (fun _ hk => hk.2) (.int .i64 ((rd_T50 l0_0 x10_2).f0.f3))) (fun _ hk => hk.2) (.int .i64 ((rd_T50 l0_0 x10_2).f0.f4))) (fun _ hk => hk.2) (.int .i64 ((rd_T50 l0_0 x10_2).f1))) (fun _ hk => hk.2) (.bool ((rd_T50 l0_0 x10_2).f2))) (fun _ hk => hk.2) (.int .i64 ((rd_T50 l0_0 x10_2).f3.f0))) (fun _ hk => hk.2) (.int .i64 ((rd_T50 l0_0 x10_2).f3.f1))) (fun _ hk => hk.2) (.int .i64 ((rd_T50 l0_0 x10_2).f3.f2))) (fun _ hk => hk.2) (.int .i64 ((rd_T50 l0_0 x10_2).f3.f3))) (fun _ hk => hk.2) (.int .i64 ((rd_T50 l0_0 x10_2).f3.f4))) (fun _ hk => ⟨hk.1.1.1, ⟨hk.1.1.2, hk.1.2⟩⟩)⟩, ⟨by (try simp only [hl9_2]); (with_reducible repeat (first | apply Kd.R_alloc | apply Kd.R_drewN | apply Kd.R_drew)); exact Kd.R_mono (Kd.R_far (p := ⟨gb192, 11, none⟩) (Kd.R_far (p := ⟨gb192, 10, none⟩) (Kd.R_far (p := ⟨gb192, 9, none⟩) (Kd.R_far (p := ⟨gb192, 8, none⟩) (Kd.R_far (p := ⟨gb192, 7, none⟩) (Kd.R_far (p := ⟨gb192, 6, none⟩) (Kd.R_far (p := ⟨gb192, 5, none⟩) (Kd.R_far (p := ⟨gb192, 4, none⟩) (Kd.R_far (p := ⟨gb192, 3, none⟩) (Kd.R_far (p := ⟨gb192, 2, none⟩) (Kd.R_far (p := ⟨gb192, 1, none⟩) (Kd.R_far (p := ⟨gb192, 0, none⟩) (Kd.R_types HO_9.out BK192.out (by decide)) (fun _ hk => hk.2) (.int .i64 ((rd_T50 l0_0 x10_2).f0.f0))) (fun _ hk => hk.2) (.int .i64 ((rd_T50 l0_0 x10_2).f0.f1))) (fun _ hk => hk.2) (.int .i64 ((rd_T50 l0_0 x10_2).f0.f2))) (fun _ hk => hk.2) (.int .i64 ((rd_T50 l0_0 x10_2).f0.f3))) (fun _ hk => hk.2) (.int .i64 ((rd_T50 l0_0 x10_2).f0.f4))) (fun _ hk => hk.2) (.int .i64 ((rd_T50 l0_0 x10_2).f1))) (fun _ hk => hk.2) (.bool ((rd_T50 l0_0 x10_2).f2))) (fun _ hk => hk.2) (.int .i64 ((rd_T50 l0_0 x10_2).f3.f0))) (fun _ hk => hk.2) (.int .i64 ((rd_T50 l0_0 x10_2).f3.f1))) (fun _ hk => hk.2) (.int .i64 ((rd_T50 l0_0 x10_2).f3.f2))) (fun _ hk => hk.2) (.int .i64 ((rd_T50 l0_0 x10_2).f3.f3))) (fun _ hk => hk.2) (.int .i64 ((rd_T50 l0_0 x10_2).f3.f4))) (fun _ hk => trivial)⟩, ⟨by (try simp only [hl9_2]); (iterate 12 (with_reducible repeat (first | refine blk_drewN ?_ _ | refine blk_drew ?_ | refine blk_alloc ?_ _)); refine blk_far ?_ NB181_192.out _); exact bg BK181.out⟩, ⟨by (try simp only [hl9_2]); exact pt12 (bg BK192.out)⟩, ⟨bs HB.out⟩⟩
              case round =>
               clear H'
               try clear c1
               try clear p1
               try clear q1
               try clear hx1
               try clear c2
               try clear p2
               try clear q2
               try clear hx2
               try clear c3
               try clear c6
               try clear p6
               try clear c9
               try clear c9b0
               try clear c10
               try clear c10b0
               try clear c11
               try clear c11b0
               try clear c11b1
               try clear c11b2
               try clear c14
               try clear c14b0
               try clear c15
               try clear c15b0
               try clear c16
               try clear c16b0
               try clear c17
               try clear c17b0
               try clear c18
               try clear p18
               try clear q18
               try clear hx18
               try clear c19
               try clear p19
               try clear q19
               try clear hx19
               try clear c20
               try clear c20b0
               try clear c20b1
               try clear c21
               try clear c21b0
               try clear c21b1
               try clear c23
               try clear c23b0
               try clear c24
               try clear c24b0
               try clear p25
               try clear q25
               try clear hx25
               try clear hf25
               try clear c31
               try clear c31b0
               try clear c32
               try clear c32b0
               try clear c33
               try clear c33b0
               try clear c34
               try clear c34b0
               try clear c37
               try clear hcz35_0
               try clear hcz38_0 hcz38_1 hcz38_10 hcz38_11 hcz38_2 hcz38_3 hcz38_4 hcz38_5 hcz38_6 hcz38_7 hcz38_8 hcz38_9
               try clear hcz7_0
               try clear hfz35_0
               try clear hfz38_0 hfz38_1 hfz38_10 hfz38_11 hfz38_2 hfz38_3 hfz38_4 hfz38_5 hfz38_6 hfz38_7 hfz38_8 hfz38_9
               try clear hfz7_0
               try clear hx185_0
               try clear hx186_0
               try clear hx191_0
               try clear hx191_1
               try clear hx191_10
               try clear hx191_11
               try clear hx191_2
               try clear hx191_3
               try clear hx191_4
               try clear hx191_5
               try clear hx191_6
               try clear hx191_7
               try clear hx191_8
               try clear hx191_9
               try clear hx193_0
               try clear hx25_0
               try clear p1
               try clear p18
               try clear p185
               try clear p186
               try clear p191
               try clear p193
               try clear p2
               try clear p25
               try clear p6
               try clear q1
               try clear q18
               try clear q185
               try clear q186
               try clear q191
               try clear q193
               try clear q2
               try clear q25
               obtain ⟨x12_3, rfl, HA, HK3, HO_8, HO_9, BK181, BK192, HB⟩ := hrel
               cases gk with
               | zero => exact absurd HA.out (by simp [search_Trace.l1])
               | succ k3 =>
                have H := HA.out
                clear HA
                simp only [search_Trace.l1] at H
                have HC39 := Aside0.mk H
                clear H
                go_upto_region 11 with (fail)
                go_cut [103] (fun v103 wc => ∃ (kq : Nat) (x103_38 : Bool), v103 = .bool x103_38 ∧ Aside0 (search_Trace.j3 kq l1 t182 x9_2 x10_2 x12_3 x103_38 l0_0 ((rd_T50 l0_0 x10_2).f0.f0) ((rd_T50 l0_0 x10_2).f0.f1) ((rd_T50 l0_0 x10_2).f0.f2) ((rd_T50 l0_0 x10_2).f0.f3) ((rd_T50 l0_0 x10_2).f0.f4) ((rd_T50 l0_0 x10_2).f1) ((rd_T50 l0_0 x10_2).f2) ((rd_T50 l0_0 x10_2).f3.f0) ((rd_T50 l0_0 x10_2).f3.f1) ((rd_T50 l0_0 x10_2).f3.f2) ((rd_T50 l0_0 x10_2).f3.f3) ((rd_T50 l0_0 x10_2).f3.f4) = some (r1, r2)) ∧ Aside0 (kq ≤ k3) ∧ Aside0 (Kd.N (Kd.slice 4 Kd.bool) 86 wc w.heap.size (fun k_ => some k_ ≠ ((.slice (some ⟨go25, 0, none⟩) x9_2.length co25) : Value).ownBlock ∧ k_ ≠ gb181 ∧ k_ ≠ gb192) (.slice Ao26 t182.length co26) t182) ∧ Aside0 (Kd.R (Kd.int .i64) 3 wc w.heap.size (fun _ => True) (.slice (some ⟨go25, 0, none⟩) x9_2.length co25) x9_2) ∧ Aside0 (wc.heap[gb181]? = some (.cells #[(.slice (some ad191) l0_0.length c0_0)] 31 (0, 0))) ∧ Aside0 (wc.heap[gb192]? = some (.cells #[.int .i64 ((rd_T50 l0_0 x10_2).f0.f0), .int .i64 ((rd_T50 l0_0 x10_2).f0.f1), .int .i64 ((rd_T50 l0_0 x10_2).f0.f2), .int .i64 ((rd_T50 l0_0 x10_2).f0.f3), .int .i64 ((rd_T50 l0_0 x10_2).f0.f4), .int .i64 ((rd_T50 l0_0 x10_2).f1), .bool ((rd_T50 l0_0 x10_2).f2), .int .i64 ((rd_T50 l0_0 x10_2).f3.f0), .int .i64 ((rd_T50 l0_0 x10_2).f3.f1), .int .i64 ((rd_T50 l0_0 x10_2).f3.f2), .int .i64 ((rd_T50 l0_0 x10_2).f3.f3), .int .i64 ((rd_T50 l0_0 x10_2).f3.f4)] 50 (0, 0))) ∧ Aside0 (Below w.heap.size w wc))
                case first =>
                 have H := HC39.out
                 clear HC39
                 by_cases c40 : x12_3 ≥ 0
                 ·
                  rw [if_pos c40] at H
                  have c40b0 : decide (0 ≤ x12_3) = true := decide_eq_true c40
                  clear c40
                  (first | rw [c40b0] | (simp only [i64_w, i32_w]; rw [c40b0]) | skip)
                  obtain ⟨ji41, hji41⟩ : ∃ j_ : Int, (wrap64 (x10_2 - 1)) = j_ := ⟨_, rfl⟩
                  replace H : (if 0 ≤ (ji41) then (if (ji41) < (t182.length : Int) then (if 0 ≤ x12_3 then (if x12_3 < ((rd_L11 t182 (ji41)).length : Int) then (if (rdOf false (rd_L11 t182 (ji41)) x12_3 = true) then (if ((rd_T50 l0_0 x10_2).f1) = 0 then (search_Trace.j3 k3 l1 t182 x9_2 x10_2 x12_3 false l0_0 ((rd_T50 l0_0 x10_2).f0.f0) ((rd_T50 l0_0 x10_2).f0.f1) ((rd_T50 l0_0 x10_2).f0.f2) ((rd_T50 l0_0 x10_2).f0.f3) ((rd_T50 l0_0 x10_2).f0.f4) ((rd_T50 l0_0 x10_2).f1) ((rd_T50 l0_0 x10_2).f2) ((rd_T50 l0_0 x10_2).f3.f0) ((rd_T50 l0_0 x10_2).f3.f1) ((rd_T50 l0_0 x10_2).f3.f2) ((rd_T50 l0_0 x10_2).f3.f3) ((rd_T50 l0_0 x10_2).f3.f4)) else (if 0 ≤ x10_2 then (if x10_2 < (x9_2.length : Int) then (if 0 ≤ (rd x9_2 x10_2) then (if (rd x9_2 x10_2) < (l1.length : Int) then (if x12_3 < (l1.length : Int) then (search_Trace.j3 k3 l1 t182 x9_2 x10_2 x12_3 (decide ((wrap64 (((rd_T46 l1 (rd x9_2 x10_2)).f1) - ((rd_T46 l1 x12_3).f1))) > ((rd_T50 l0_0 x10_2).f1))) l0_0 ((rd_T50 l0_0 x10_2).f0.f0) ((rd_T50 l0_0 x10_2).f0.f1) ((rd_T50 l0_0 x10_2).f0.f2) ((rd_T50 l0_0 x10_2).f0.f3) ((rd_T50 l0_0 x10_2).f0.f4) ((rd_T50 l0_0 x10_2).f1) ((rd_T50 l0_0 x10_2).f2) ((rd_T50 l0_0 x10_2).f3.f0) ((rd_T50 l0_0 x10_2).f3.f1) ((rd_T50 l0_0 x10_2).f3.f2) ((rd_T50 l0_0 x10_2).f3.f3) ((rd_T50 l0_0 x10_2).f3.f4)) else (none)) else (none)) else (none)) else (none)) else (none))) else (search_Trace.j3 k3 l1 t182 x9_2 x10_2 x12_3 true l0_0 ((rd_T50 l0_0 x10_2).f0.f0) ((rd_T50 l0_0 x10_2).f0.f1) ((rd_T50 l0_0 x10_2).f0.f2) ((rd_T50 l0_0 x10_2).f0.f3) ((rd_T50 l0_0 x10_2).f0.f4) ((rd_T50 l0_0 x10_2).f1) ((rd_T50 l0_0 x10_2).f2) ((rd_T50 l0_0 x10_2).f3.f0) ((rd_T50 l0_0 x10_2).f3.f1) ((rd_T50 l0_0 x10_2).f3.f2) ((rd_T50 l0_0 x10_2).f3.f3) ((rd_T50 l0_0 x10_2).f3.f4))) else (none)) else (none)) else (none)) else (none)) = some (r1, r2) := by first | (rw [hji41] at H; exact H) | (simp only [hji41] at H ⊢; exact H)
                  have hji41w : (IntKind.i64.wrap (x10_2 - 1)) = ji41 := (i64_w _).trans hji41
                  by_cases c42 : 0 ≤ (ji41)
                  ·
                   rw [if_pos c42] at H
                   have c42b0 : decide (0 ≤ (ji41)) = true := decide_eq_true c42
                   clear c42
                   by_cases c43 : (ji41) < (t182.length : Int)
                   ·
                    rw [if_pos c43] at H
                    have c43b0 : decide ((ji41) < (t182.length : Int)) = true := decide_eq_true c43
                    clear c43
                    by_cases c44 : 0 ≤ x12_3
                    ·
                     rw [if_pos c44] at H
                     have c44b0 : decide (0 ≤ x12_3) = true := decide_eq_true c44
                     clear c44
                     by_cases c45 : x12_3 < ((rd_L11 t182 (ji41)).length : Int)
                     ·
                      rw [if_pos c45] at H
                      have c45b0 : decide (x12_3 < ((rd_L11 t182 (ji41)).length : Int)) = true := decide_eq_true c45
                      clear c45
                      obtain ⟨bq46, hbq46⟩ : ∃ b_ : Bool, b_ = (rdOf false (rd_L11 t182 (ji41)) x12_3) := ⟨_, rfl⟩
                      replace H : (if (bq46 = true) then (if ((rd_T50 l0_0 x10_2).f1) = 0 then (search_Trace.j3 k3 l1 t182 x9_2 x10_2 x12_3 false l0_0 ((rd_T50 l0_0 x10_2).f0.f0) ((rd_T50 l0_0 x10_2).f0.f1) ((rd_T50 l0_0 x10_2).f0.f2) ((rd_T50 l0_0 x10_2).f0.f3) ((rd_T50 l0_0 x10_2).f0.f4) ((rd_T50 l0_0 x10_2).f1) ((rd_T50 l0_0 x10_2).f2) ((rd_T50 l0_0 x10_2).f3.f0) ((rd_T50 l0_0 x10_2).f3.f1) ((rd_T50 l0_0 x10_2).f3.f2) ((rd_T50 l0_0 x10_2).f3.f3) ((rd_T50 l0_0 x10_2).f3.f4)) else (if 0 ≤ x10_2 then (if x10_2 < (x9_2.length : Int) then (if 0 ≤ (rd x9_2 x10_2) then (if (rd x9_2 x10_2) < (l1.length : Int) then (if x12_3 < (l1.length : Int) then (search_Trace.j3 k3 l1 t182 x9_2 x10_2 x12_3 (decide ((wrap64 (((rd_T46 l1 (rd x9_2 x10_2)).f1) - ((rd_T46 l1 x12_3).f1))) > ((rd_T50 l0_0 x10_2).f1))) l0_0 ((rd_T50 l0_0 x10_2).f0.f0) ((rd_T50 l0_0 x10_2).f0.f1) ((rd_T50 l0_0 x10_2).f0.f2) ((rd_T50 l0_0 x10_2).f0.f3) ((rd_T50 l0_0 x10_2).f0.f4) ((rd_T50 l0_0 x10_2).f1) ((rd_T50 l0_0 x10_2).f2) ((rd_T50 l0_0 x10_2).f3.f0) ((rd_T50 l0_0 x10_2).f3.f1) ((rd_T50 l0_0 x10_2).f3.f2) ((rd_T50 l0_0 x10_2).f3.f3) ((rd_T50 l0_0 x10_2).f3.f4)) else (none)) else (none)) else (none)) else (none)) else (none))) else (search_Trace.j3 k3 l1 t182 x9_2 x10_2 x12_3 true l0_0 ((rd_T50 l0_0 x10_2).f0.f0) ((rd_T50 l0_0 x10_2).f0.f1) ((rd_T50 l0_0 x10_2).f0.f2) ((rd_T50 l0_0 x10_2).f0.f3) ((rd_T50 l0_0 x10_2).f0.f4) ((rd_T50 l0_0 x10_2).f1) ((rd_T50 l0_0 x10_2).f2) ((rd_T50 l0_0 x10_2).f3.f0) ((rd_T50 l0_0 x10_2).f3.f1) ((rd_T50 l0_0 x10_2).f3.f2) ((rd_T50 l0_0 x10_2).f3.f3) ((rd_T50 l0_0 x10_2).f3.f4))) = some (r1, r2) := by rw [← hbq46] at H; exact H
                      have Nbq46 := Aside0.mk hbq46
                      clear hbq46
                      by_cases c47 : (bq46 = true)
                      ·
                       subst c47
                       have H1 : (if ((rd_T50 l0_0 x10_2).f1) = 0 then (search_Trace.j3 k3 l1 t182 x9_2 x10_2 x12_3 false l0_0 ((rd_T50 l0_0 x10_2).f0.f0) ((rd_T50 l0_0 x10_2).f0.f1) ((rd_T50 l0_0 x10_2).f0.f2) ((rd_T50 l0_0 x10_2).f0.f3) ((rd_T50 l0_0 x10_2).f0.f4) ((rd_T50 l0_0 x10_2).f1) ((rd_T50 l0_0 x10_2).f2) ((rd_T50 l0_0 x10_2).f3.f0) ((rd_T50 l0_0 x10_2).f3.f1) ((rd_T50 l0_0 x10_2).f3.f2) ((rd_T50 l0_0 x10_2).f3.f3) ((rd_T50 l0_0 x10_2).f3.f4)) else (if 0 ≤ x10_2 then (if x10_2 < (x9_2.length : Int) then (if 0 ≤ (rd x9_2 x10_2) then (if (rd x9_2 x10_2) < (l1.length : Int) then (if x12_3 < (l1.length : Int) then (search_Trace.j3 k3 l1 t182 x9_2 x10_2 x12_3 (decide ((wrap64 (((rd_T46 l1 (rd x9_2 x10_2)).f1) - ((rd_T46 l1 x12_3).f1))) > ((rd_T50 l0_0 x10_2).f1))) l0_0 ((rd_T50 l0_0 x10_2).f0.f0) ((rd_T50 l0_0 x10_2).f0.f1) ((rd_T50 l0_0 x10_2).f0.f2) ((rd_T50 l0_0 x10_2).f0.f3) ((rd_T50 l0_0 x10_2).f0.f4) ((rd_T50 l0_0 x10_2).f1) ((rd_T50 l0_0 x10_2).f2) ((rd_T50 l0_0 x10_2).f3.f0) ((rd_T50 l0_0 x10_2).f3.f1) ((rd_T50 l0_0 x10_2).f3.f2) ((rd_T50 l0_0 x10_2).f3.f3) ((rd_T50 l0_0 x10_2).f3.f4)) else (none)) else (none)) else (none)) else (none)) else (none))) = some (r1, r2) := by rw [if_pos rfl] at H; exact H
                       clear H
                       have H := H1
                       clear H1
                       by_cases c48 : ((rd_T50 l0_0 x10_2).f1) = 0
                       ·
                        rw [if_pos c48] at H
                        have c48b0 : (((rd_T50 l0_0 x10_2).f1) == 0) = true := beq_iff_eq.mpr c48
                        have c48b1 : (((rd_T50 l0_0 x10_2).f1) != 0) = false := bne_eq_false_iff_eq.mpr c48
                        clear c48
                        have H' := Aside0.mk H
                        clear H
                        try go_wp2
                        have n0_ := Aside0.mk (Kd.N_drew HO_8.out)
                        have n1_ := Aside0.mk (Kd.R_drew HO_9.out)
                        have n2_ := Aside0.mk (blk_drew BK181.out)
                        have n3_ := Aside0.mk (blk_drew BK192.out)
                        have n4_ := Aside0.mk (below_drew1 HB.out)
                        clear HO_8
                        clear HO_9
                        clear BK181
                        clear BK192
                        clear HB
                        have HO_8 := n0_
                        have HO_9 := n1_
                        have BK181 := n2_
                        have BK192 := n3_
                        have HB := n4_
                        clear n0_ n1_ n2_ n3_ n4_
                        have p194 : 0 ≤ ((ji41) : Int) := of_decide_eq_true (by first | (with_reducible assumption) | assumption)
                        have q194 : (ji41) < (t182.length : Int) := of_decide_eq_true (by first | (with_reducible assumption) | assumption)
                        obtain ⟨ad194, A194_0, c194_0, e194, hx194_0, hl194_0, hi194_0⟩ := at_L11 (Kd.N_reads' HO_8.out).2.2 (ji41) p194 q194
                        cases e194
                        obtain ⟨ce194, hce194, hMe194, hcc194⟩ := Kd.N_get HO_8.out [] (ji41) p194 (by first | exact q194 | exact of_decide_eq_true (by first | (with_reducible assumption) | assumption) | (have e_ := (Kd.N_reads' HO_8.out).1; omega))
                        obtain ⟨ua194_0, uc194_0, rfl, ul194_0, ge194_0⟩ := Kd.FK_slice_open hMe194
                        have hv194_0 := hcc194 0 _ rfl
                        rw [Nat.add_zero, show ((Kd.slice 4 Kd.bool)).sz = 1 from rfl, Nat.mul_one] at hv194_0
                        replace hv194_0 := Option.some.inj (hv194_0.symm.trans hx194_0)
                        injection hv194_0 with hva_ hvn_ hvc_
                        rw [hva_] at ge194_0
                        rw [hvc_] at ul194_0
                        have HL194_0 := Aside0.mk (show Kd.V Kd.bool 4 _ w.heap.size _ _ (rd_L11 t182 (ji41)) from Kd.V_mk ul194_0 ge194_0)
                        clear hva_ hvn_ hvc_ ge194_0 ul194_0
                        clear hcc194 hce194
                        have HR194_0 := Aside0.mk hi194_0
                        have HC194_0 := Aside0.mk hl194_0
                        clear hi194_0 hl194_0
                        replace p194 := eq_true p194
                        replace q194 := eq_true q194
                        have p195 : 0 ≤ (x12_3 : Int) := of_decide_eq_true (by first | (with_reducible assumption) | assumption)
                        have q195 : x12_3 < ((rd_L11 t182 (ji41)).length : Int) := of_decide_eq_true (by first | (with_reducible assumption) | assumption)
                        obtain ⟨ad195, e195, hx195_0⟩ := Kd.at_bool (by repeat (first | (with_reducible exact HR194_0.out) | (with_reducible refine Kd.C_alloc ?_ _) | (with_reducible refine Kd.C_drewN ?_ _) | (with_reducible refine Kd.C_drew ?_) | exact HR194_0.out)) x12_3 p195 q195
                        (try rw [← Nbq46.out] at hx195_0)
                        cases e195
                        replace p195 := eq_true p195
                        replace q195 := eq_true q195
                        refine start_ (n := 37) (S := fun w' => w'.cell? ⟨gb192, 0, none⟩ = some (.int .i64 ((rd_T50 l0_0 x10_2).f0.f0)) ∧ w'.cell? ⟨gb192, 1, none⟩ = some (.int .i64 ((rd_T50 l0_0 x10_2).f0.f1)) ∧ w'.cell? ⟨gb192, 2, none⟩ = some (.int .i64 ((rd_T50 l0_0 x10_2).f0.f2)) ∧ w'.cell? ⟨gb192, 3, none⟩ = some (.int .i64 ((rd_T50 l0_0 x10_2).f0.f3)) ∧ w'.cell? ⟨gb192, 4, none⟩ = some (.int .i64 ((rd_T50 l0_0 x10_2).f0.f4)) ∧ w'.cell? ⟨gb192, 5, none⟩ = some (.int .i64 ((rd_T50 l0_0 x10_2).f1)) ∧ w'.cell? ⟨gb192, 6, none⟩ = some (.bool ((rd_T50 l0_0 x10_2).f2)) ∧ w'.cell? ⟨gb192, 7, none⟩ = some (.int .i64 ((rd_T50 l0_0 x10_2).f3.f0)) ∧ w'.cell? ⟨gb192, 8, none⟩ = some (.int .i64 ((rd_T50 l0_0 x10_2).f3.f1)) ∧ w'.cell? ⟨gb192, 9, none⟩ = some (.int .i64 ((rd_T50 l0_0 x10_2).f3.f2)) ∧ w'.cell? ⟨gb192, 10, none⟩ = some (.int .i64 ((rd_T50 l0_0 x10_2).f3.f3)) ∧ w'.cell? ⟨gb192, 11, none⟩ = some (.int .i64 ((rd_T50 l0_0 x10_2).f3.f4)) ∧ w'.cell? (ad194.add ((ji41)).toNat) = some (.slice (some ad195) (rd_L11 t182 (ji41)).length c194_0) ∧ w'.cell? (ad195.add (x12_3).toNat) = some (.bool true)) (ds := []) (bsq 0 37) (by kernel_rfl) rfl rfl ⟨(blk_cell BK192.out 0).trans rfl, (blk_cell BK192.out 1).trans rfl, (blk_cell BK192.out 2).trans rfl, (blk_cell BK192.out 3).trans rfl, (blk_cell BK192.out 4).trans rfl, (blk_cell BK192.out 5).trans rfl, (blk_cell BK192.out 6).trans rfl, (blk_cell BK192.out 7).trans rfl, (blk_cell BK192.out 8).trans rfl, (blk_cell BK192.out 9).trans rfl, (blk_cell BK192.out 10).trans rfl, (blk_cell BK192.out 11).trans rfl, hx194_0, hx195_0⟩ (fun hHeld => ?_); refine with_tabW search_Trace.tab11 search_Trace.bits11 (fun HT_ HW_ => ?_)
                        generalize wr.drew = w49 at HO_8 HO_9 BK181 BK192 HB HL194_0 HR194_0 hx194_0 hx195_0 hHeld ⊢
                        refine pu 0 67 (bsq 1 36) ?_
                        refine pu 1 68 (bsq 2 35) ?_
                        refine pu 2 69 (bsq 3 34) ?_
                        refine pu 3 70 (bsq 4 33) ?_
                        refine pu 4 71 (bsq 5 32) ?_
                        refine pu 5 72 (bsq 6 31) ?_
                        refine pu 6 73 (bsq 7 30) ?_
                        refine pu 8 75 (bls [7, 1, 1, 28]) ?_
                        refine tk 7 74 (bsq 9 28) hHeld ?_ (he := by rintro w' ⟨s0, s1, s2, s3, s4, s5, s6, s7, s8, s9, s10, s11, s12, s13⟩; go_simp; with_reducible rfl)
                        refine pu 9 76 (bsq 10 27) ?_
                        refine tk 10 77 (bsq 11 26) hHeld ?_ (he := by rintro w' ⟨s0, s1, s2, s3, s4, s5, s6, s7, s8, s9, s10, s11, s12, s13⟩; go_simp; with_reducible rfl)
                        refine pu 11 78 (bsq 12 25) ?_
                        refine pu 12 79 (bsq 13 24) ?_
                        refine pu 13 80 (bsq 14 23) ?_
                        refine tk 14 81 (bsq 15 22) hHeld ?_ (he := by rintro w' ⟨s0, s1, s2, s3, s4, s5, s6, s7, s8, s9, s10, s11, s12, s13⟩; go_simp; with_reducible rfl)
                        refine pu 15 82 (bsq 16 21) ?_
                        refine pu 16 83 (bsq 17 20) ?_
                        refine un 17 84 (bsq 18 19) ?_
                        refine un 18 85 (bsq 19 18) ?_
                        refine un 19 86 (bsq 20 17) ?_
                        refine un 20 87 (bsq 21 16) ?_
                        refine un 21 88 (bsq 22 15) ?_
                        refine un 22 89 (bsq 23 14) ?_
                        refine un 23 90 (bsq 24 13) ?_
                        refine un 24 91 (bsq 25 12) ?_
                        refine un 25 92 (bsq 26 11) ?_
                        refine un 26 93 (bsq 27 10) ?_
                        refine un 27 94 (bsq 28 9) ?_
                        refine un 28 95 (bsq 29 8) ?_
                        refine un 29 96 (bsq 30 7) ?_
                        refine un 30 97 (bsq 31 6) ?_
                        refine un 31 98 (bsq 32 5) ?_
                        refine un 32 99 (bsq 33 4) ?_
                        refine un 33 100 (bsq 34 3) ?_
                        refine pu 34 101 (bsq 35 2) ?_
                        refine pu 35 102 (bsq 36 1) ?_
                        refine pu 36 103 (bsq 37 0) ?_
                        refine done_ (done_of HT_.out (by kernel_rfl)) ?_
                        try go_wp2
                        go_meet
                        case rel => exact ⟨_, (false), (by first | rfl | (simp; done) | (simp [*]; done)), H', ⟨by have := HJ4.out; have := HK2.out; have := HK3.out; first | omega | exact Nat.le_refl _⟩, ⟨by (try simp only [hl9_2]); (with_reducible repeat (first | apply Kd.N_alloc | apply Kd.N_drewN | apply Kd.N_drew)); exact HO_8.out⟩, ⟨by (try simp only [hl9_2]); (with_reducible repeat (first | apply Kd.R_alloc | apply Kd.R_drewN | apply Kd.R_drew)); exact HO_9.out⟩, ⟨by (try simp only [hl9_2]); exact bg BK181.out⟩, ⟨by (try simp only [hl9_2]); exact bg BK192.out⟩, ⟨bs HB.out⟩⟩
                       ·
                        rw [if_neg c48] at H
                        have c48b0 : (((rd_T50 l0_0 x10_2).f1) == 0) = false := beq_eq_false_iff_ne.mpr c48
                        have c48b1 : (((rd_T50 l0_0 x10_2).f1) != 0) = true := bne_iff_ne.mpr c48
                        by_cases c50 : 0 ≤ x10_2
                        ·
                         rw [if_pos c50] at H
                         have c50b0 : decide (0 ≤ x10_2) = true := decide_eq_true c50
                         clear c50
                         by_cases c51 : x10_2 < (x9_2.length : Int)
                         ·
                          rw [if_pos c51] at H
                          have c51b0 : decide (x10_2 < (x9_2.length : Int)) = true := decide_eq_true c51
                          clear c51
                          by_cases c52 : 0 ≤ (rd x9_2 x10_2)
                          ·
                           rw [if_pos c52] at H
                           have c52b0 : decide (0 ≤ (rd x9_2 x10_2)) = true := decide_eq_true c52
                           clear c52
                           by_cases c53 : (rd x9_2 x10_2) < (l1.length : Int)
                           ·
                            rw [if_pos c53] at H
                            have c53b0 : decide ((rd x9_2 x10_2) < (l1.length : Int)) = true := decide_eq_true c53
                            clear c53
                            by_cases c54 : x12_3 < (l1.length : Int)
                            ·
                             rw [if_pos c54] at H
                             have c54b0 : decide (x12_3 < (l1.length : Int)) = true := decide_eq_true c54
                             clear c54
                             have H' := Aside0.mk H
                             clear H
                             try go_wp2
                             have n0_ := Aside0.mk (Kd.N_drew HO_8.out)
                             have n1_ := Aside0.mk (Kd.R_drew HO_9.out)
                             have n2_ := Aside0.mk (blk_drew BK181.out)
                             have n3_ := Aside0.mk (blk_drew BK192.out)
                             have n4_ := Aside0.mk (below_drew1 HB.out)
                             clear HO_8
                             clear HO_9
                             clear BK181
                             clear BK192
                             clear HB
                             have HO_8 := n0_
                             have HO_9 := n1_
                             have BK181 := n2_
                             have BK192 := n3_
                             have HB := n4_
                             clear n0_ n1_ n2_ n3_ n4_
                             have p194 : 0 ≤ ((ji41) : Int) := of_decide_eq_true (by first | (with_reducible assumption) | assumption)
                             have q194 : (ji41) < (t182.length : Int) := of_decide_eq_true (by first | (with_reducible assumption) | assumption)
                             obtain ⟨ad194, A194_0, c194_0, e194, hx194_0, hl194_0, hi194_0⟩ := at_L11 (Kd.N_reads' HO_8.out).2.2 (ji41) p194 q194
                             cases e194
                             obtain ⟨ce194, hce194, hMe194, hcc194⟩ := Kd.N_get HO_8.out [] (ji41) p194 (by first | exact q194 | exact of_decide_eq_true (by first | (with_reducible assumption) | assumption) | (have e_ := (Kd.N_reads' HO_8.out).1; omega))
                             obtain ⟨ua194_0, uc194_0, rfl, ul194_0, ge194_0⟩ := Kd.FK_slice_open hMe194
                             have hv194_0 := hcc194 0 _ rfl
                             rw [Nat.add_zero, show ((Kd.slice 4 Kd.bool)).sz = 1 from rfl, Nat.mul_one] at hv194_0
                             replace hv194_0 := Option.some.inj (hv194_0.symm.trans hx194_0)
                             injection hv194_0 with hva_ hvn_ hvc_
                             rw [hva_] at ge194_0
                             rw [hvc_] at ul194_0
                             have HL194_0 := Aside0.mk (show Kd.V Kd.bool 4 _ w.heap.size _ _ (rd_L11 t182 (ji41)) from Kd.V_mk ul194_0 ge194_0)
                             clear hva_ hvn_ hvc_ ge194_0 ul194_0
                             clear hcc194 hce194
                             have HR194_0 := Aside0.mk hi194_0
                             have HC194_0 := Aside0.mk hl194_0
                             clear hi194_0 hl194_0
                             replace p194 := eq_true p194
                             replace q194 := eq_true q194
                             have p195 : 0 ≤ (x12_3 : Int) := of_decide_eq_true (by first | (with_reducible assumption) | assumption)
                             have q195 : x12_3 < ((rd_L11 t182 (ji41)).length : Int) := of_decide_eq_true (by first | (with_reducible assumption) | assumption)
                             obtain ⟨ad195, e195, hx195_0⟩ := Kd.at_bool (by repeat (first | (with_reducible exact HR194_0.out) | (with_reducible refine Kd.C_alloc ?_ _) | (with_reducible refine Kd.C_drewN ?_ _) | (with_reducible refine Kd.C_drew ?_) | exact HR194_0.out)) x12_3 p195 q195
                             (try rw [← Nbq46.out] at hx195_0)
                             cases e195
                             replace p195 := eq_true p195
                             replace q195 := eq_true q195
                             have p196 : 0 ≤ (x10_2 : Int) := of_decide_eq_true (by first | (with_reducible assumption) | assumption)
                             have q196 : x10_2 < (x9_2.length : Int) := of_decide_eq_true (by first | (with_reducible assumption) | assumption)
                             obtain ⟨ad196, e196, hx196_0⟩ := Kd.at_int (Kd.R_reads' HO_9.out).2.2 x10_2 p196 q196
                             obtain rfl : (⟨go25, 0, none⟩ : Addr) = ad196 := (by injection e196)
                             (first | simp only [add_plain] at hx196_0 | simp only [add_at] at hx196_0 | simp only [Addr.add, Nat.zero_add] at hx196_0 | skip)
                             replace p196 := eq_true p196
                             replace q196 := eq_true q196
                             have p197 : 0 ≤ ((rd x9_2 x10_2) : Int) := of_decide_eq_true (by first | (with_reducible assumption) | assumption)
                             have q197 : (rd x9_2 x10_2) < (l1.length : Int) := of_decide_eq_true (by first | (with_reducible assumption) | assumption)
                             obtain ⟨ad197, e197, hx197_0, hx197_1, hx197_2, hx197_3, hx197_4, hx197_5, hx197_6, hx197_7, hx197_8⟩ := at_T46 HR1.out (rd x9_2 x10_2) p197 q197
                             have hw197_8 := hx197_8
                             have hw197_7 := hx197_7
                             have hw197_6 := hx197_6
                             have hw197_5 := hx197_5
                             have hw197_4 := hx197_4
                             have hw197_3 := hx197_3
                             have hw197_2 := hx197_2
                             have hw197_1 := hx197_1
                             have hw197_0 := hx197_0
                             cases e197
                             replace hx197_0 := pw_cell_below HB.out hx197_0
                             replace hx197_1 := pw_cell_below HB.out hx197_1
                             replace hx197_2 := pw_cell_below HB.out hx197_2
                             replace hx197_3 := pw_cell_below HB.out hx197_3
                             replace hx197_4 := pw_cell_below HB.out hx197_4
                             replace hx197_5 := pw_cell_below HB.out hx197_5
                             replace hx197_6 := pw_cell_below HB.out hx197_6
                             replace hx197_7 := pw_cell_below HB.out hx197_7
                             replace hx197_8 := pw_cell_below HB.out hx197_8
                             replace p197 := eq_true p197
                             replace q197 := eq_true q197
                             have p198 : 0 ≤ (x12_3 : Int) := of_decide_eq_true (by first | (with_reducible assumption) | assumption)
                             have q198 : x12_3 < (l1.length : Int) := of_decide_eq_true (by first | (with_reducible assumption) | assumption)
                             obtain ⟨ad198, e198, hx198_0, hx198_1, hx198_2, hx198_3, hx198_4, hx198_5, hx198_6, hx198_7, hx198_8⟩ := at_T46 HR1.out x12_3 p198 q198
                             have hw198_8 := hx198_8
                             have hw198_7 := hx198_7
                             have hw198_6 := hx198_6
                             have hw198_5 := hx198_5
                             have hw198_4 := hx198_4
                             have hw198_3 := hx198_3
                             have hw198_2 := hx198_2
                             have hw198_1 := hx198_1
                             have hw198_0 := hx198_0
                             obtain rfl : ad197 = ad198 := (by injection e198)
                             replace hx198_0 := pw_cell_below HB.out hx198_0
                             replace hx198_1 := pw_cell_below HB.out hx198_1
                             replace hx198_2 := pw_cell_below HB.out hx198_2
                             replace hx198_3 := pw_cell_below HB.out hx198_3
                             replace hx198_4 := pw_cell_below HB.out hx198_4
                             replace hx198_5 := pw_cell_below HB.out hx198_5
                             replace hx198_6 := pw_cell_below HB.out hx198_6
                             replace hx198_7 := pw_cell_below HB.out hx198_7
                             replace hx198_8 := pw_cell_below HB.out hx198_8
                             replace p198 := eq_true p198
                             replace q198 := eq_true q198
                             refine start_ (n := 37) (S := fun w' => w'.cell? ⟨gb192, 0, none⟩ = some (.int .i64 ((rd_T50 l0_0 x10_2).f0.f0)) ∧ w'.cell? ⟨gb192, 1, none⟩ = some (.int .i64 ((rd_T50 l0_0 x10_2).f0.f1)) ∧ w'.cell? ⟨gb192, 2, none⟩ = some (.int .i64 ((rd_T50 l0_0 x10_2).f0.f2)) ∧ w'.cell? ⟨gb192, 3, none⟩ = some (.int .i64 ((rd_T50 l0_0 x10_2).f0.f3)) ∧ w'.cell? ⟨gb192, 4, none⟩ = some (.int .i64 ((rd_T50 l0_0 x10_2).f0.f4)) ∧ w'.cell? ⟨gb192, 5, none⟩ = some (.int .i64 ((rd_T50 l0_0 x10_2).f1)) ∧ w'.cell? ⟨gb192, 6, none⟩ = some (.bool ((rd_T50 l0_0 x10_2).f2)) ∧ w'.cell? ⟨gb192, 7, none⟩ = some (.int .i64 ((rd_T50 l0_0 x10_2).f3.f0)) ∧ w'.cell? ⟨gb192, 8, none⟩ = some (.int .i64 ((rd_T50 l0_0 x10_2).f3.f1)) ∧ w'.cell? ⟨gb192, 9, none⟩ = some (.int .i64 ((rd_T50 l0_0 x10_2).f3.f2)) ∧ w'.cell? ⟨gb192, 10, none⟩ = some (.int .i64 ((rd_T50 l0_0 x10_2).f3.f3)) ∧ w'.cell? ⟨gb192, 11, none⟩ = some (.int .i64 ((rd_T50 l0_0 x10_2).f3.f4)) ∧ w'.cell? (ad194.add ((ji41)).toNat) = some (.slice (some ad195) (rd_L11 t182 (ji41)).length c194_0) ∧ w'.cell? (ad195.add (x12_3).toNat) = some (.bool true) ∧ w'.cell? ⟨go25, (x10_2).toNat, none⟩ = some (.int .i64 (rd x9_2 x10_2)) ∧ w'.cell? (ad197.add (((rd x9_2 x10_2)).toNat * 9)) = some (.int .i64 ((rd_T46 l1 (rd x9_2 x10_2)).f0)) ∧ w'.cell? ⟨(ad197.add (((rd x9_2 x10_2)).toNat * 9)).block, (ad197.add (((rd x9_2 x10_2)).toNat * 9)).off + 1, none⟩ = some (.int .i64 ((rd_T46 l1 (rd x9_2 x10_2)).f1)) ∧ w'.cell? ⟨(ad197.add (((rd x9_2 x10_2)).toNat * 9)).block, (ad197.add (((rd x9_2 x10_2)).toNat * 9)).off + 2, none⟩ = some (.int .i64 ((rd_T46 l1 (rd x9_2 x10_2)).f2.f0)) ∧ w'.cell? ⟨(ad197.add (((rd x9_2 x10_2)).toNat * 9)).block, (ad197.add (((rd x9_2 x10_2)).toNat * 9)).off + 3, none⟩ = some (.int .i64 ((rd_T46 l1 (rd x9_2 x10_2)).f2.f1)) ∧ w'.cell? ⟨(ad197.add (((rd x9_2 x10_2)).toNat * 9)).block, (ad197.add (((rd x9_2 x10_2)).toNat * 9)).off + 4, none⟩ = some (.int .i64 ((rd_T46 l1 (rd x9_2 x10_2)).f2.f2)) ∧ w'.cell? ⟨(ad197.add (((rd x9_2 x10_2)).toNat * 9)).block, (ad197.add (((rd x9_2 x10_2)).toNat * 9)).off + 5, none⟩ = some (.int .i64 ((rd_T46 l1 (rd x9_2 x10_2)).f2.f3)) ∧ w'.cell? ⟨(ad197.add (((rd x9_2 x10_2)).toNat * 9)).block, (ad197.add (((rd x9_2 x10_2)).toNat * 9)).off + 6, none⟩ = some (.int .i64 ((rd_T46 l1 (rd x9_2 x10_2)).f2.f4)) ∧ w'.cell? ⟨(ad197.add (((rd x9_2 x10_2)).toNat * 9)).block, (ad197.add (((rd x9_2 x10_2)).toNat * 9)).off + 7, none⟩ = some (.string ((rd_T46 l1 (rd x9_2 x10_2)).f2.f5)) ∧ w'.cell? ⟨(ad197.add (((rd x9_2 x10_2)).toNat * 9)).block, (ad197.add (((rd x9_2 x10_2)).toNat * 9)).off + 8, none⟩ = some (.int .i64 ((rd_T46 l1 (rd x9_2 x10_2)).f2.f6)) ∧ w'.cell? (ad197.add ((x12_3).toNat * 9)) = some (.int .i64 ((rd_T46 l1 x12_3).f0)) ∧ w'.cell? ⟨(ad197.add ((x12_3).toNat * 9)).block, (ad197.add ((x12_3).toNat * 9)).off + 1, none⟩ = some (.int .i64 ((rd_T46 l1 x12_3).f1)) ∧ w'.cell? ⟨(ad197.add ((x12_3).toNat * 9)).block, (ad197.add ((x12_3).toNat * 9)).off + 2, none⟩ = some (.int .i64 ((rd_T46 l1 x12_3).f2.f0)) ∧ w'.cell? ⟨(ad197.add ((x12_3).toNat * 9)).block, (ad197.add ((x12_3).toNat * 9)).off + 3, none⟩ = some (.int .i64 ((rd_T46 l1 x12_3).f2.f1)) ∧ w'.cell? ⟨(ad197.add ((x12_3).toNat * 9)).block, (ad197.add ((x12_3).toNat * 9)).off + 4, none⟩ = some (.int .i64 ((rd_T46 l1 x12_3).f2.f2)) ∧ w'.cell? ⟨(ad197.add ((x12_3).toNat * 9)).block, (ad197.add ((x12_3).toNat * 9)).off + 5, none⟩ = some (.int .i64 ((rd_T46 l1 x12_3).f2.f3)) ∧ w'.cell? ⟨(ad197.add ((x12_3).toNat * 9)).block, (ad197.add ((x12_3).toNat * 9)).off + 6, none⟩ = some (.int .i64 ((rd_T46 l1 x12_3).f2.f4)) ∧ w'.cell? ⟨(ad197.add ((x12_3).toNat * 9)).block, (ad197.add ((x12_3).toNat * 9)).off + 7, none⟩ = some (.string ((rd_T46 l1 x12_3).f2.f5)) ∧ w'.cell? ⟨(ad197.add ((x12_3).toNat * 9)).block, (ad197.add ((x12_3).toNat * 9)).off + 8, none⟩ = some (.int .i64 ((rd_T46 l1 x12_3).f2.f6))) (ds := []) (bsq 0 37) (by kernel_rfl) rfl rfl ⟨(blk_cell BK192.out 0).trans rfl, (blk_cell BK192.out 1).trans rfl, (blk_cell BK192.out 2).trans rfl, (blk_cell BK192.out 3).trans rfl, (blk_cell BK192.out 4).trans rfl, (blk_cell BK192.out 5).trans rfl, (blk_cell BK192.out 6).trans rfl, (blk_cell BK192.out 7).trans rfl, (blk_cell BK192.out 8).trans rfl, (blk_cell BK192.out 9).trans rfl, (blk_cell BK192.out 10).trans rfl, (blk_cell BK192.out 11).trans rfl, hx194_0, hx195_0, hx196_0, ((HB.out.cell (World.block_lt_of_cell? w _ hw197_0)).trans hw197_0), ((HB.out.cell (World.block_lt_of_cell? w _ hw197_1)).trans hw197_1), ((HB.out.cell (World.block_lt_of_cell? w _ hw197_2)).trans hw197_2), ((HB.out.cell (World.block_lt_of_cell? w _ hw197_3)).trans hw197_3), ((HB.out.cell (World.block_lt_of_cell? w _ hw197_4)).trans hw197_4), ((HB.out.cell (World.block_lt_of_cell? w _ hw197_5)).trans hw197_5), ((HB.out.cell (World.block_lt_of_cell? w _ hw197_6)).trans hw197_6), ((HB.out.cell (World.block_lt_of_cell? w _ hw197_7)).trans hw197_7), ((HB.out.cell (World.block_lt_of_cell? w _ hw197_8)).trans hw197_8), ((HB.out.cell (World.block_lt_of_cell? w _ hw198_0)).trans hw198_0), ((HB.out.cell (World.block_lt_of_cell? w _ hw198_1)).trans hw198_1), ((HB.out.cell (World.block_lt_of_cell? w _ hw198_2)).trans hw198_2), ((HB.out.cell (World.block_lt_of_cell? w _ hw198_3)).trans hw198_3), ((HB.out.cell (World.block_lt_of_cell? w _ hw198_4)).trans hw198_4), ((HB.out.cell (World.block_lt_of_cell? w _ hw198_5)).trans hw198_5), ((HB.out.cell (World.block_lt_of_cell? w _ hw198_6)).trans hw198_6), ((HB.out.cell (World.block_lt_of_cell? w _ hw198_7)).trans hw198_7), ((HB.out.cell (World.block_lt_of_cell? w _ hw198_8)).trans hw198_8)⟩ (fun hHeld => ?_); refine with_tabW search_Trace.tab11 search_Trace.bits11 (fun HT_ HW_ => ?_)
                             generalize wr.drew = w55 at HO_8 HO_9 BK181 BK192 HB HL194_0 HR194_0 hx194_0 hx195_0 hx196_0 hx197_0 hx197_1 hx197_2 hx197_3 hx197_4 hx197_5 hx197_6 hx197_7 hx197_8 hx198_0 hx198_1 hx198_2 hx198_3 hx198_4 hx198_5 hx198_6 hx198_7 hx198_8 hHeld ⊢
                             refine pu 0 67 (bsq 1 36) ?_
                             refine pu 1 68 (bsq 2 35) ?_
                             refine pu 2 69 (bsq 3 34) ?_
                             refine pu 3 70 (bsq 4 33) ?_
                             refine pu 4 71 (bsq 5 32) ?_
                             refine pu 5 72 (bsq 6 31) ?_
                             refine pu 6 73 (bsq 7 30) ?_
                             refine pu 8 75 (bls [7, 1, 1, 28]) ?_
                             refine tk 7 74 (bsq 9 28) hHeld ?_ (he := by rintro w' ⟨s0, s1, s2, s3, s4, s5, s6, s7, s8, s9, s10, s11, s12, s13, s14, s15, s16, s17, s18, s19, s20, s21, s22, s23, s24, s25, s26, s27, s28, s29, s30, s31, s32⟩; go_simp; with_reducible rfl)
                             refine pu 9 76 (bsq 10 27) ?_
                             refine tk 10 77 (bsq 11 26) hHeld ?_ (he := by rintro w' ⟨s0, s1, s2, s3, s4, s5, s6, s7, s8, s9, s10, s11, s12, s13, s14, s15, s16, s17, s18, s19, s20, s21, s22, s23, s24, s25, s26, s27, s28, s29, s30, s31, s32⟩; go_simp; with_reducible rfl)
                             refine pu 11 78 (bsq 12 25) ?_
                             refine pu 12 79 (bsq 13 24) ?_
                             refine pu 13 80 (bsq 14 23) ?_
                             refine tk 14 81 (bsq 15 22) hHeld ?_ (he := by rintro w' ⟨s0, s1, s2, s3, s4, s5, s6, s7, s8, s9, s10, s11, s12, s13, s14, s15, s16, s17, s18, s19, s20, s21, s22, s23, s24, s25, s26, s27, s28, s29, s30, s31, s32⟩; go_simp; with_reducible rfl)
                             refine pu 15 82 (bsq 16 21) ?_
                             refine pu 16 83 (bsq 17 20) ?_
                             refine pu 17 84 (bsq 18 19) ?_
                             refine pu 18 85 (bsq 19 18) ?_
                             refine pu 19 86 (bsq 20 17) ?_
                             refine pu 20 87 (bsq 21 16) ?_
                             refine pu 25 92 (bls [21, 4, 1, 11]) ?_
                             refine pu 26 93 (bls [21, 4, 2, 10]) ?_
                             refine pu 27 94 (bls [21, 4, 3, 9]) ?_
                             refine pu 28 95 (bls [21, 4, 4, 8]) ?_
                             refine pu 31 98 (bls [21, 4, 4, 2, 1, 5]) ?_
                             refine tk 21 88 (bls [22, 3, 4, 2, 1, 5]) hHeld ?_ (he := by rintro w' ⟨s0, s1, s2, s3, s4, s5, s6, s7, s8, s9, s10, s11, s12, s13, s14, s15, s16, s17, s18, s19, s20, s21, s22, s23, s24, s25, s26, s27, s28, s29, s30, s31, s32⟩; go_simp; with_reducible rfl)
                             refine pu 22 89 (bls [23, 2, 4, 2, 1, 5]) ?_
                             refine pu 23 90 (bls [24, 1, 4, 2, 1, 5]) ?_
                             refine tk 24 91 (bls [29, 2, 1, 5]) hHeld ?_ (he := by rintro w' ⟨s0, s1, s2, s3, s4, s5, s6, s7, s8, s9, s10, s11, s12, s13, s14, s15, s16, s17, s18, s19, s20, s21, s22, s23, s24, s25, s26, s27, s28, s29, s30, s31, s32⟩; go_simp; with_reducible rfl)
                             refine tk 29 96 (bls [30, 1, 1, 5]) hHeld ?_ (he := by rintro w' ⟨s0, s1, s2, s3, s4, s5, s6, s7, s8, s9, s10, s11, s12, s13, s14, s15, s16, s17, s18, s19, s20, s21, s22, s23, s24, s25, s26, s27, s28, s29, s30, s31, s32⟩; go_simp; with_reducible rfl)
                             refine pu 30 97 (bsq 32 5) ?_
                             refine tk 32 99 (bsq 33 4) hHeld ?_ (he := by rintro w' ⟨s0, s1, s2, s3, s4, s5, s6, s7, s8, s9, s10, s11, s12, s13, s14, s15, s16, s17, s18, s19, s20, s21, s22, s23, s24, s25, s26, s27, s28, s29, s30, s31, s32⟩; go_simp; with_reducible rfl)
                             refine pu 33 100 (bsq 34 3) ?_
                             refine pu 34 101 (bsq 35 2) ?_
                             refine pu 35 102 (bsq 36 1) ?_
                             refine pu 36 103 (bsq 37 0) ?_
                             refine done_ (done_of HT_.out (by kernel_rfl)) ?_
                             try go_wp2
                             go_meet
                             case rel => exact ⟨_, (decide ((wrap64 (((rd_T46 l1 (rd x9_2 x10_2)).f1) - ((rd_T46 l1 x12_3).f1))) > ((rd_T50 l0_0 x10_2).f1))), (by first | rfl | (simp; done) | (simp [*]; done)), H', ⟨by have := HJ4.out; have := HK2.out; have := HK3.out; first | omega | exact Nat.le_refl _⟩, ⟨by (try simp only [hl9_2]); (with_reducible repeat (first | apply Kd.N_alloc | apply Kd.N_drewN | apply Kd.N_drew)); exact HO_8.out⟩, ⟨by (try simp only [hl9_2]); (with_reducible repeat (first | apply Kd.R_alloc | apply Kd.R_drewN | apply Kd.R_drew)); exact HO_9.out⟩, ⟨by (try simp only [hl9_2]); exact bg BK181.out⟩, ⟨by (try simp only [hl9_2]); exact bg BK192.out⟩, ⟨bs HB.out⟩⟩
                            ·
                             rw [if_neg c54] at H
                             exact absurd H (by simp)
                           ·
                            rw [if_neg c53] at H
                            exact absurd H (by simp)
                          ·
                           rw [if_neg c52] at H
                           exact absurd H (by simp)
                         ·
                          rw [if_neg c51] at H
                          exact absurd H (by simp)
                        ·
                         rw [if_neg c50] at H
                         exact absurd H (by simp)
                      ·
                       replace c47 := Bool.eq_false_iff.mpr c47
                       subst c47
                       have H1 : (search_Trace.j3 k3 l1 t182 x9_2 x10_2 x12_3 true l0_0 ((rd_T50 l0_0 x10_2).f0.f0) ((rd_T50 l0_0 x10_2).f0.f1) ((rd_T50 l0_0 x10_2).f0.f2) ((rd_T50 l0_0 x10_2).f0.f3) ((rd_T50 l0_0 x10_2).f0.f4) ((rd_T50 l0_0 x10_2).f1) ((rd_T50 l0_0 x10_2).f2) ((rd_T50 l0_0 x10_2).f3.f0) ((rd_T50 l0_0 x10_2).f3.f1) ((rd_T50 l0_0 x10_2).f3.f2) ((rd_T50 l0_0 x10_2).f3.f3) ((rd_T50 l0_0 x10_2).f3.f4)) = some (r1, r2) := by rw [if_neg (show ¬ (false = true) by decide)] at H; exact H
                       clear H
                       have H := H1
                       clear H1
                       have H' := Aside0.mk H
                       clear H
                       try go_wp2
                       have n0_ := Aside0.mk (Kd.N_drew HO_8.out)
                       have n1_ := Aside0.mk (Kd.R_drew HO_9.out)
                       have n2_ := Aside0.mk (blk_drew BK181.out)
                       have n3_ := Aside0.mk (blk_drew BK192.out)
                       have n4_ := Aside0.mk (below_drew1 HB.out)
                       clear HO_8
                       clear HO_9
                       clear BK181
                       clear BK192
                       clear HB
                       have HO_8 := n0_
                       have HO_9 := n1_
                       have BK181 := n2_
                       have BK192 := n3_
                       have HB := n4_
                       clear n0_ n1_ n2_ n3_ n4_
                       have p194 : 0 ≤ ((ji41) : Int) := of_decide_eq_true (by first | (with_reducible assumption) | assumption)
                       have q194 : (ji41) < (t182.length : Int) := of_decide_eq_true (by first | (with_reducible assumption) | assumption)
                       obtain ⟨ad194, A194_0, c194_0, e194, hx194_0, hl194_0, hi194_0⟩ := at_L11 (Kd.N_reads' HO_8.out).2.2 (ji41) p194 q194
                       cases e194
                       obtain ⟨ce194, hce194, hMe194, hcc194⟩ := Kd.N_get HO_8.out [] (ji41) p194 (by first | exact q194 | exact of_decide_eq_true (by first | (with_reducible assumption) | assumption) | (have e_ := (Kd.N_reads' HO_8.out).1; omega))
                       obtain ⟨ua194_0, uc194_0, rfl, ul194_0, ge194_0⟩ := Kd.FK_slice_open hMe194
                       have hv194_0 := hcc194 0 _ rfl
                       rw [Nat.add_zero, show ((Kd.slice 4 Kd.bool)).sz = 1 from rfl, Nat.mul_one] at hv194_0
                       replace hv194_0 := Option.some.inj (hv194_0.symm.trans hx194_0)
                       injection hv194_0 with hva_ hvn_ hvc_
                       rw [hva_] at ge194_0
                       rw [hvc_] at ul194_0
                       have HL194_0 := Aside0.mk (show Kd.V Kd.bool 4 _ w.heap.size _ _ (rd_L11 t182 (ji41)) from Kd.V_mk ul194_0 ge194_0)
                       clear hva_ hvn_ hvc_ ge194_0 ul194_0
                       clear hcc194 hce194
                       have HR194_0 := Aside0.mk hi194_0
                       have HC194_0 := Aside0.mk hl194_0
                       clear hi194_0 hl194_0
                       replace p194 := eq_true p194
                       replace q194 := eq_true q194
                       have p195 : 0 ≤ (x12_3 : Int) := of_decide_eq_true (by first | (with_reducible assumption) | assumption)
                       have q195 : x12_3 < ((rd_L11 t182 (ji41)).length : Int) := of_decide_eq_true (by first | (with_reducible assumption) | assumption)
                       obtain ⟨ad195, e195, hx195_0⟩ := Kd.at_bool (by repeat (first | (with_reducible exact HR194_0.out) | (with_reducible refine Kd.C_alloc ?_ _) | (with_reducible refine Kd.C_drewN ?_ _) | (with_reducible refine Kd.C_drew ?_) | exact HR194_0.out)) x12_3 p195 q195
                       (try rw [← Nbq46.out] at hx195_0)
                       cases e195
                       replace p195 := eq_true p195
                       replace q195 := eq_true q195
                       refine start_ (n := 37) (S := fun w' => w'.cell? (ad194.add ((ji41)).toNat) = some (.slice (some ad195) (rd_L11 t182 (ji41)).length c194_0) ∧ w'.cell? (ad195.add (x12_3).toNat) = some (.bool false)) (ds := []) (bsq 0 37) (by kernel_rfl) rfl rfl ⟨hx194_0, hx195_0⟩ (fun hHeld => ?_); refine with_tabW search_Trace.tab11 search_Trace.bits11 (fun HT_ HW_ => ?_)
                       generalize wr.drew = w56 at HO_8 HO_9 BK181 BK192 HB HL194_0 HR194_0 hx194_0 hx195_0 hHeld ⊢
                       refine pu 0 67 (bsq 1 36) ?_
                       refine pu 1 68 (bsq 2 35) ?_
                       refine pu 2 69 (bsq 3 34) ?_
                       refine pu 3 70 (bsq 4 33) ?_
                       refine pu 4 71 (bsq 5 32) ?_
                       refine pu 5 72 (bsq 6 31) ?_
                       refine pu 6 73 (bsq 7 30) ?_
                       refine pu 8 75 (bls [7, 1, 1, 28]) ?_
                       refine tk 7 74 (bsq 9 28) hHeld ?_ (he := by rintro w' ⟨s0, s1⟩; go_simp; with_reducible rfl)
                       refine pu 9 76 (bsq 10 27) ?_
                       refine tk 10 77 (bsq 11 26) hHeld ?_ (he := by rintro w' ⟨s0, s1⟩; go_simp; with_reducible rfl)
                       refine pu 11 78 (bsq 12 25) ?_
                       refine pu 12 79 (bsq 13 24) ?_
                       refine un 13 80 (bsq 14 23) ?_
                       refine un 14 81 (bsq 15 22) ?_
                       refine un 15 82 (bsq 16 21) ?_
                       refine un 16 83 (bsq 17 20) ?_
                       refine un 17 84 (bsq 18 19) ?_
                       refine un 18 85 (bsq 19 18) ?_
                       refine un 19 86 (bsq 20 17) ?_
                       refine un 20 87 (bsq 21 16) ?_
                       refine un 21 88 (bsq 22 15) ?_
                       refine un 22 89 (bsq 23 14) ?_
                       refine un 23 90 (bsq 24 13) ?_
                       refine un 24 91 (bsq 25 12) ?_
                       refine un 25 92 (bsq 26 11) ?_
                       refine un 26 93 (bsq 27 10) ?_
                       refine un 27 94 (bsq 28 9) ?_
                       refine un 28 95 (bsq 29 8) ?_
                       refine un 29 96 (bsq 30 7) ?_
                       refine un 30 97 (bsq 31 6) ?_
                       refine un 31 98 (bsq 32 5) ?_
                       refine un 32 99 (bsq 33 4) ?_
                       refine un 33 100 (bsq 34 3) ?_
                       refine un 34 101 (bsq 35 2) ?_
                       refine pu 35 102 (bsq 36 1) ?_
                       refine pu 36 103 (bsq 37 0) ?_
                       refine done_ (done_of HT_.out (by kernel_rfl)) ?_
                       try go_wp2
                       go_meet
                       case rel => exact ⟨_, (true), (by first | rfl | (simp; done) | (simp [*]; done)), H', ⟨by have := HJ4.out; have := HK2.out; have := HK3.out; first | omega | exact Nat.le_refl _⟩, ⟨by (try simp only [hl9_2]); (with_reducible repeat (first | apply Kd.N_alloc | apply Kd.N_drewN | apply Kd.N_drew)); exact HO_8.out⟩, ⟨by (try simp only [hl9_2]); (with_reducible repeat (first | apply Kd.R_alloc | apply Kd.R_drewN | apply Kd.R_drew)); exact HO_9.out⟩, ⟨by (try simp only [hl9_2]); exact bg BK181.out⟩, ⟨by (try simp only [hl9_2]); exact bg BK192.out⟩, ⟨bs HB.out⟩⟩
                     ·
                      rw [if_neg c45] at H
                      exact absurd H (by simp)
                    ·
                     rw [if_neg c44] at H
                     exact absurd H (by simp)
                   ·
                    rw [if_neg c43] at H
                    exact absurd H (by simp)
                  ·
                   rw [if_neg c42] at H
                   exact absurd H (by simp)
                 ·
                  rw [if_neg c40] at H
                  have c40b0 : decide (0 ≤ x12_3) = false := decide_eq_false c40
                  clear c40
                  (first | rw [c40b0] | (simp only [i64_w, i32_w]; rw [c40b0]) | skip)
                  have H' := Aside0.mk H
                  clear H
                  try go_wp2
                  have n0_ := Aside0.mk (Kd.N_drew HO_8.out)
                  have n1_ := Aside0.mk (Kd.R_drew HO_9.out)
                  have n2_ := Aside0.mk (blk_drew BK181.out)
                  have n3_ := Aside0.mk (blk_drew BK192.out)
                  have n4_ := Aside0.mk (below_drew1 HB.out)
                  clear HO_8
                  clear HO_9
                  clear BK181
                  clear BK192
                  clear HB
                  have HO_8 := n0_
                  have HO_9 := n1_
                  have BK181 := n2_
                  have BK192 := n3_
                  have HB := n4_
                  clear n0_ n1_ n2_ n3_ n4_
                  refine start_ (n := 37) (S := fun w' => True) (ds := []) (bsq 0 37) (by kernel_rfl) rfl rfl trivial (fun hHeld => ?_); refine with_tabW search_Trace.tab11 search_Trace.bits11 (fun HT_ HW_ => ?_)
                  generalize wr.drew = w57 at HO_8 HO_9 BK181 BK192 HB hHeld ⊢
                  refine pu 0 67 (bsq 1 36) ?_
                  refine pu 1 68 (bsq 2 35) ?_
                  refine pu 2 69 (bsq 3 34) ?_
                  refine un 3 70 (bsq 4 33) ?_
                  refine un 4 71 (bsq 5 32) ?_
                  refine un 5 72 (bsq 6 31) ?_
                  refine un 6 73 (bsq 7 30) ?_
                  refine un 7 74 (bsq 8 29) ?_
                  refine un 8 75 (bsq 9 28) ?_
                  refine un 9 76 (bsq 10 27) ?_
                  refine un 10 77 (bsq 11 26) ?_
                  refine un 11 78 (bsq 12 25) ?_
                  refine un 12 79 (bsq 13 24) ?_
                  refine un 13 80 (bsq 14 23) ?_
                  refine un 14 81 (bsq 15 22) ?_
                  refine un 15 82 (bsq 16 21) ?_
                  refine un 16 83 (bsq 17 20) ?_
                  refine un 17 84 (bsq 18 19) ?_
                  refine un 18 85 (bsq 19 18) ?_
                  refine un 19 86 (bsq 20 17) ?_
                  refine un 20 87 (bsq 21 16) ?_
                  refine un 21 88 (bsq 22 15) ?_
                  refine un 22 89 (bsq 23 14) ?_
                  refine un 23 90 (bsq 24 13) ?_
                  refine un 24 91 (bsq 25 12) ?_
                  refine un 25 92 (bsq 26 11) ?_
                  refine un 26 93 (bsq 27 10) ?_
                  refine un 27 94 (bsq 28 9) ?_
                  refine un 28 95 (bsq 29 8) ?_
                  refine un 29 96 (bsq 30 7) ?_
                  refine un 30 97 (bsq 31 6) ?_
                  refine un 31 98 (bsq 32 5) ?_
                  refine un 32 99 (bsq 33 4) ?_
                  refine un 33 100 (bsq 34 3) ?_
                  refine un 34 101 (bsq 35 2) ?_
                  refine un 35 102 (bsq 36 1) ?_
                  refine pu 36 103 (bsq 37 0) ?_
                  refine done_ (done_of HT_.out (by kernel_rfl)) ?_
                  try go_wp2
                  go_meet
                  case rel => exact ⟨_, (false), (by first | rfl | (simp; done) | (simp [*]; done)), H', ⟨by have := HJ4.out; have := HK2.out; have := HK3.out; first | omega | exact Nat.le_refl _⟩, ⟨by (try simp only [hl9_2]); (with_reducible repeat (first | apply Kd.N_alloc | apply Kd.N_drewN | apply Kd.N_drew)); exact HO_8.out⟩, ⟨by (try simp only [hl9_2]); (with_reducible repeat (first | apply Kd.R_alloc | apply Kd.R_drewN | apply Kd.R_drew)); exact HO_9.out⟩, ⟨by (try simp only [hl9_2]); exact bg BK181.out⟩, ⟨by (try simp only [hl9_2]); exact bg BK192.out⟩, ⟨bs HB.out⟩⟩
                case rest =>
                 clear HC39
                 try clear c1
                 try clear p1
                 try clear q1
                 try clear hx1
                 try clear p2
                 try clear c4
                 try clear q4
                 try clear c5
                 try clear p6
                 try clear c19
                 try clear p19
                 try clear q19
                 try clear hx19
                 try clear c40
                 try clear c40b0
                 try clear c42
                 try clear c43
                 try clear c44
                 try clear c45
                 try clear q46
                 try clear c47
                 try clear c50
                 try clear c51
                 try clear c52
                 try clear c53
                 try clear c54
                 try clear hx194_0
                 try clear hx195_0
                 try clear p194
                 try clear p195
                 try clear q194
                 try clear q195
                 obtain ⟨kq, x103_38, rfl, HA, HJ38, HO_8, HO_9, BK181, BK192, HB⟩ := hcut
                 cases kq with
                 | zero => exact absurd HA.out (by simp [search_Trace.j3])
                 | succ kj38 =>
                  have H := HA.out
                  clear HA
                  simp only [search_Trace.j3] at H
                  by_cases c58 : x103_38 = true
                  ·
                   subst c58
                   have H1 : (if 0 ≤ x12_3 then (if x12_3 < (l1.length : Int) then ((search_forbids.f kj38 ((rd_T50 l0_0 x10_2).f0.f0) ((rd_T50 l0_0 x10_2).f0.f1) ((rd_T50 l0_0 x10_2).f0.f2) ((rd_T50 l0_0 x10_2).f0.f3) ((rd_T50 l0_0 x10_2).f0.f4) ((rd_T50 l0_0 x10_2).f1) ((rd_T50 l0_0 x10_2).f2) ((rd_T50 l0_0 x10_2).f3.f0) ((rd_T50 l0_0 x10_2).f3.f1) ((rd_T50 l0_0 x10_2).f3.f2) ((rd_T50 l0_0 x10_2).f3.f3) ((rd_T50 l0_0 x10_2).f3.f4) ((rd_T46 l1 x12_3).f0) ((rd_T46 l1 x12_3).f1) ((rd_T46 l1 x12_3).f2.f0) ((rd_T46 l1 x12_3).f2.f1) ((rd_T46 l1 x12_3).f2.f2) ((rd_T46 l1 x12_3).f2.f3) ((rd_T46 l1 x12_3).f2.f4) ((rd_T46 l1 x12_3).f2.f5) ((rd_T46 l1 x12_3).f2.f6)).bind fun t200 => (if t200 = true then (some (([] : List Int), false)) else (search_Trace.l1 kj38 l1 t182 x9_2 x10_2 (wrap64 (x12_3 - 1)) l0_0 ((rd_T50 l0_0 x10_2).f0.f0) ((rd_T50 l0_0 x10_2).f0.f1) ((rd_T50 l0_0 x10_2).f0.f2) ((rd_T50 l0_0 x10_2).f0.f3) ((rd_T50 l0_0 x10_2).f0.f4) ((rd_T50 l0_0 x10_2).f1) ((rd_T50 l0_0 x10_2).f2) ((rd_T50 l0_0 x10_2).f3.f0) ((rd_T50 l0_0 x10_2).f3.f1) ((rd_T50 l0_0 x10_2).f3.f2) ((rd_T50 l0_0 x10_2).f3.f3) ((rd_T50 l0_0 x10_2).f3.f4)))) else (none)) else (none)) = some (r1, r2) := by rw [if_pos rfl] at H; exact H
                   clear H
                   have H := H1
                   clear H1
                   by_cases c59 : 0 ≤ x12_3
                   ·
                    rw [if_pos c59] at H
                    have c59b0 : decide (0 ≤ x12_3) = true := decide_eq_true c59
                    clear c59
                    by_cases c60 : x12_3 < (l1.length : Int)
                    ·
                     rw [if_pos c60] at H
                     have c60b0 : decide (x12_3 < (l1.length : Int)) = true := decide_eq_true c60
                     clear c60
                     replace H := Option.bind_eq_some_iff.mp H
                     obtain ⟨t200, A610, H⟩ := H
                     replace H : (if t200 = true then (some (([] : List Int), false)) else (search_Trace.l1 kj38 l1 t182 x9_2 x10_2 (wrap64 (x12_3 - 1)) l0_0 ((rd_T50 l0_0 x10_2).f0.f0) ((rd_T50 l0_0 x10_2).f0.f1) ((rd_T50 l0_0 x10_2).f0.f2) ((rd_T50 l0_0 x10_2).f0.f3) ((rd_T50 l0_0 x10_2).f0.f4) ((rd_T50 l0_0 x10_2).f1) ((rd_T50 l0_0 x10_2).f2) ((rd_T50 l0_0 x10_2).f3.f0) ((rd_T50 l0_0 x10_2).f3.f1) ((rd_T50 l0_0 x10_2).f3.f2) ((rd_T50 l0_0 x10_2).f3.f3) ((rd_T50 l0_0 x10_2).f3.f4))) = some (r1, r2) := H
                     have A61 := Aside0.mk A610
                     clear A610
                     by_cases c62 : t200 = true
                     ·
                      subst c62
                      have H1 : (some (([] : List Int), false)) = some (r1, r2) := by rw [if_pos rfl] at H; exact H
                      clear H
                      have H := H1
                      clear H1
                      simp only [Option.some.injEq, Prod.mk.injEq] at H
                      obtain ⟨rfl, rfl⟩ := H
                      try go_wp2
                      have n0_ := Aside0.mk (Kd.N_drew HO_8.out)
                      have n1_ := Aside0.mk (Kd.R_drew HO_9.out)
                      have n2_ := Aside0.mk (blk_drew BK181.out)
                      have n3_ := Aside0.mk (blk_drew BK192.out)
                      have n4_ := Aside0.mk (below_drew1 HB.out)
                      clear HO_8
                      clear HO_9
                      clear BK181
                      clear BK192
                      clear HB
                      have HO_8 := n0_
                      have HO_9 := n1_
                      have BK181 := n2_
                      have BK192 := n3_
                      have HB := n4_
                      clear n0_ n1_ n2_ n3_ n4_
                      have p199 : 0 ≤ (x12_3 : Int) := of_decide_eq_true (by first | (with_reducible assumption) | assumption)
                      have q199 : x12_3 < (l1.length : Int) := of_decide_eq_true (by first | (with_reducible assumption) | assumption)
                      obtain ⟨ad199, e199, hx199_0, hx199_1, hx199_2, hx199_3, hx199_4, hx199_5, hx199_6, hx199_7, hx199_8⟩ := at_T46 HR1.out x12_3 p199 q199
                      have hw199_8 := hx199_8
                      have hw199_7 := hx199_7
                      have hw199_6 := hx199_6
                      have hw199_5 := hx199_5
                      have hw199_4 := hx199_4
                      have hw199_3 := hx199_3
                      have hw199_2 := hx199_2
                      have hw199_1 := hx199_1
                      have hw199_0 := hx199_0
                      cases e199
                      replace hx199_0 := pw_cell_below HB.out hx199_0
                      replace hx199_1 := pw_cell_below HB.out hx199_1
                      replace hx199_2 := pw_cell_below HB.out hx199_2
                      replace hx199_3 := pw_cell_below HB.out hx199_3
                      replace hx199_4 := pw_cell_below HB.out hx199_4
                      replace hx199_5 := pw_cell_below HB.out hx199_5
                      replace hx199_6 := pw_cell_below HB.out hx199_6
                      replace hx199_7 := pw_cell_below HB.out hx199_7
                      replace hx199_8 := pw_cell_below HB.out hx199_8
                      replace p199 := eq_true p199
                      replace q199 := eq_true q199
                      refine start_ (n := 6) (S := fun w' => w'.cell? ⟨gb192, 0, none⟩ = some (.int .i64 ((rd_T50 l0_0 x10_2).f0.f0)) ∧ w'.cell? ⟨gb192, 1, none⟩ = some (.int .i64 ((rd_T50 l0_0 x10_2).f0.f1)) ∧ w'.cell? ⟨gb192, 2, none⟩ = some (.int .i64 ((rd_T50 l0_0 x10_2).f0.f2)) ∧ w'.cell? ⟨gb192, 3, none⟩ = some (.int .i64 ((rd_T50 l0_0 x10_2).f0.f3)) ∧ w'.cell? ⟨gb192, 4, none⟩ = some (.int .i64 ((rd_T50 l0_0 x10_2).f0.f4)) ∧ w'.cell? ⟨gb192, 5, none⟩ = some (.int .i64 ((rd_T50 l0_0 x10_2).f1)) ∧ w'.cell? ⟨gb192, 6, none⟩ = some (.bool ((rd_T50 l0_0 x10_2).f2)) ∧ w'.cell? ⟨gb192, 7, none⟩ = some (.int .i64 ((rd_T50 l0_0 x10_2).f3.f0)) ∧ w'.cell? ⟨gb192, 8, none⟩ = some (.int .i64 ((rd_T50 l0_0 x10_2).f3.f1)) ∧ w'.cell? ⟨gb192, 9, none⟩ = some (.int .i64 ((rd_T50 l0_0 x10_2).f3.f2)) ∧ w'.cell? ⟨gb192, 10, none⟩ = some (.int .i64 ((rd_T50 l0_0 x10_2).f3.f3)) ∧ w'.cell? ⟨gb192, 11, none⟩ = some (.int .i64 ((rd_T50 l0_0 x10_2).f3.f4)) ∧ w'.cell? (ad199.add ((x12_3).toNat * 9)) = some (.int .i64 ((rd_T46 l1 x12_3).f0)) ∧ w'.cell? ⟨(ad199.add ((x12_3).toNat * 9)).block, (ad199.add ((x12_3).toNat * 9)).off + 1, none⟩ = some (.int .i64 ((rd_T46 l1 x12_3).f1)) ∧ w'.cell? ⟨(ad199.add ((x12_3).toNat * 9)).block, (ad199.add ((x12_3).toNat * 9)).off + 2, none⟩ = some (.int .i64 ((rd_T46 l1 x12_3).f2.f0)) ∧ w'.cell? ⟨(ad199.add ((x12_3).toNat * 9)).block, (ad199.add ((x12_3).toNat * 9)).off + 3, none⟩ = some (.int .i64 ((rd_T46 l1 x12_3).f2.f1)) ∧ w'.cell? ⟨(ad199.add ((x12_3).toNat * 9)).block, (ad199.add ((x12_3).toNat * 9)).off + 4, none⟩ = some (.int .i64 ((rd_T46 l1 x12_3).f2.f2)) ∧ w'.cell? ⟨(ad199.add ((x12_3).toNat * 9)).block, (ad199.add ((x12_3).toNat * 9)).off + 5, none⟩ = some (.int .i64 ((rd_T46 l1 x12_3).f2.f3)) ∧ w'.cell? ⟨(ad199.add ((x12_3).toNat * 9)).block, (ad199.add ((x12_3).toNat * 9)).off + 6, none⟩ = some (.int .i64 ((rd_T46 l1 x12_3).f2.f4)) ∧ w'.cell? ⟨(ad199.add ((x12_3).toNat * 9)).block, (ad199.add ((x12_3).toNat * 9)).off + 7, none⟩ = some (.string ((rd_T46 l1 x12_3).f2.f5)) ∧ w'.cell? ⟨(ad199.add ((x12_3).toNat * 9)).block, (ad199.add ((x12_3).toNat * 9)).off + 8, none⟩ = some (.int .i64 ((rd_T46 l1 x12_3).f2.f6))) (ds := []) (bsq 0 6) (by kernel_rfl) rfl rfl ⟨(blk_cell BK192.out 0).trans rfl, (blk_cell BK192.out 1).trans rfl, (blk_cell BK192.out 2).trans rfl, (blk_cell BK192.out 3).trans rfl, (blk_cell BK192.out 4).trans rfl, (blk_cell BK192.out 5).trans rfl, (blk_cell BK192.out 6).trans rfl, (blk_cell BK192.out 7).trans rfl, (blk_cell BK192.out 8).trans rfl, (blk_cell BK192.out 9).trans rfl, (blk_cell BK192.out 10).trans rfl, (blk_cell BK192.out 11).trans rfl, ((HB.out.cell (World.block_lt_of_cell? w _ hw199_0)).trans hw199_0), ((HB.out.cell (World.block_lt_of_cell? w _ hw199_1)).trans hw199_1), ((HB.out.cell (World.block_lt_of_cell? w _ hw199_2)).trans hw199_2), ((HB.out.cell (World.block_lt_of_cell? w _ hw199_3)).trans hw199_3), ((HB.out.cell (World.block_lt_of_cell? w _ hw199_4)).trans hw199_4), ((HB.out.cell (World.block_lt_of_cell? w _ hw199_5)).trans hw199_5), ((HB.out.cell (World.block_lt_of_cell? w _ hw199_6)).trans hw199_6), ((HB.out.cell (World.block_lt_of_cell? w _ hw199_7)).trans hw199_7), ((HB.out.cell (World.block_lt_of_cell? w _ hw199_8)).trans hw199_8)⟩ (fun hHeld => ?_)
                      generalize wc.drew = w63 at HO_8 HO_9 BK181 BK192 HB hx199_0 hx199_1 hx199_2 hx199_3 hx199_4 hx199_5 hx199_6 hx199_7 hx199_8 hHeld ⊢
                      refine puk 1 105 (bls [0, 1, 1, 4]) ?_
                      refine puk 2 106 (bls [0, 1, 2, 3]) ?_
                      refine puk 3 107 (bls [0, 1, 3, 2]) ?_
                      refine tkk 0 104 (bsq 4 2) hHeld ?_ (he := by rintro w' ⟨s0, s1, s2, s3, s4, s5, s6, s7, s8, s9, s10, s11, s12, s13, s14, s15, s16, s17, s18, s19, s20⟩; go_simp; with_reducible rfl)
                      refine tkk 4 108 (bsq 5 1) hHeld ?_ (he := by rintro w' ⟨s0, s1, s2, s3, s4, s5, s6, s7, s8, s9, s10, s11, s12, s13, s14, s15, s16, s17, s18, s19, s20⟩; go_simp; with_reducible rfl)
                      refine one_ (i := 5) (N := some 109) (bsq 6 0) rfl rfl (by kernel_rfl) (by decide) (fun K hK => ?_)
                      refine goes_ Try.func64 (by kernel_rfl) rfl #[.agg #[.int .i64 ((rd_T50 l0_0 x10_2).f0.f0), .int .i64 ((rd_T50 l0_0 x10_2).f0.f1), .int .i64 ((rd_T50 l0_0 x10_2).f0.f2), .int .i64 ((rd_T50 l0_0 x10_2).f0.f3), .int .i64 ((rd_T50 l0_0 x10_2).f0.f4), .int .i64 ((rd_T50 l0_0 x10_2).f1), .bool ((rd_T50 l0_0 x10_2).f2), .int .i64 ((rd_T50 l0_0 x10_2).f3.f0), .int .i64 ((rd_T50 l0_0 x10_2).f3.f1), .int .i64 ((rd_T50 l0_0 x10_2).f3.f2), .int .i64 ((rd_T50 l0_0 x10_2).f3.f3), .int .i64 ((rd_T50 l0_0 x10_2).f3.f4)], .agg #[.int .i64 ((rd_T46 l1 x12_3).f0), .int .i64 ((rd_T46 l1 x12_3).f1), .int .i64 ((rd_T46 l1 x12_3).f2.f0), .int .i64 ((rd_T46 l1 x12_3).f2.f1), .int .i64 ((rd_T46 l1 x12_3).f2.f2), .int .i64 ((rd_T46 l1 x12_3).f2.f3), .int .i64 ((rd_T46 l1 x12_3).f2.f4), .string ((rd_T46 l1 x12_3).f2.f5), .int .i64 ((rd_T46 l1 x12_3).f2.f6)]] (by rfl) rfl rfl (by (try simp only [List.map_toArray, List.map_cons, List.map_nil]); first | done | rfl | (simp only [List.length_drop, List.length_take]; rfl)) ?_
                      with_reducible refine (search_forbids.calls kj38 ((rd_T50 l0_0 x10_2).f0.f0) ((rd_T50 l0_0 x10_2).f0.f1) ((rd_T50 l0_0 x10_2).f0.f2) ((rd_T50 l0_0 x10_2).f0.f3) ((rd_T50 l0_0 x10_2).f0.f4) ((rd_T50 l0_0 x10_2).f1) ((rd_T50 l0_0 x10_2).f2) ((rd_T50 l0_0 x10_2).f3.f0) ((rd_T50 l0_0 x10_2).f3.f1) ((rd_T50 l0_0 x10_2).f3.f2) ((rd_T50 l0_0 x10_2).f3.f3) ((rd_T50 l0_0 x10_2).f3.f4) ((rd_T46 l1 x12_3).f0) ((rd_T46 l1 x12_3).f1) ((rd_T46 l1 x12_3).f2.f0) ((rd_T46 l1 x12_3).f2.f1) ((rd_T46 l1 x12_3).f2.f2) ((rd_T46 l1 x12_3).f2.f3) ((rd_T46 l1 x12_3).f2.f4) ((rd_T46 l1 x12_3).f2.f5) ((rd_T46 l1 x12_3).f2.f6) true _ A61.out).mono ?_
                      rintro e w64 ⟨rfl, hb⟩
                      refine ⟨_, rfl, ?_⟩
                      have n0_ := Aside0.mk (Kd.N_below (by (with_reducible repeat (first | apply Kd.N_alloc | apply Kd.N_drewN | apply Kd.N_drew)); exact HO_8.out) hb)
                      have n1_ := Aside0.mk (Kd.R_below (rq HO_9.out) hb)
                      have n2_ := Aside0.mk (blk_below (bg BK181.out) hb)
                      have n3_ := Aside0.mk (blk_below (bg BK192.out) hb)
                      have n4_ := Aside0.mk (below_step (bs HB.out) hb)
                      clear HO_8
                      clear HO_9
                      clear BK181
                      clear BK192
                      clear HB
                      have HO_8 := n0_
                      have HO_9 := n1_
                      have BK181 := n2_
                      have BK192 := n3_
                      have HB := n4_
                      clear n0_ n1_ n2_ n3_ n4_
                      (try clear hb)
                      (try clear hb2)
                      (try clear hk)
                      (try clear hi)
                      refine hK.out _ _ ⟨(blk_cell BK192.out 0).trans rfl, (blk_cell BK192.out 1).trans rfl, (blk_cell BK192.out 2).trans rfl, (blk_cell BK192.out 3).trans rfl, (blk_cell BK192.out 4).trans rfl, (blk_cell BK192.out 5).trans rfl, (blk_cell BK192.out 6).trans rfl, (blk_cell BK192.out 7).trans rfl, (blk_cell BK192.out 8).trans rfl, (blk_cell BK192.out 9).trans rfl, (blk_cell BK192.out 10).trans rfl, (blk_cell BK192.out 11).trans rfl, ((HB.out.cell (World.block_lt_of_cell? w _ hw199_0)).trans hw199_0), ((HB.out.cell (World.block_lt_of_cell? w _ hw199_1)).trans hw199_1), ((HB.out.cell (World.block_lt_of_cell? w _ hw199_2)).trans hw199_2), ((HB.out.cell (World.block_lt_of_cell? w _ hw199_3)).trans hw199_3), ((HB.out.cell (World.block_lt_of_cell? w _ hw199_4)).trans hw199_4), ((HB.out.cell (World.block_lt_of_cell? w _ hw199_5)).trans hw199_5), ((HB.out.cell (World.block_lt_of_cell? w _ hw199_6)).trans hw199_6), ((HB.out.cell (World.block_lt_of_cell? w _ hw199_7)).trans hw199_7), ((HB.out.cell (World.block_lt_of_cell? w _ hw199_8)).trans hw199_8)⟩ (fun hHeld => ?_)
                      clear hK K
                      refine norm_ (a' := ?_) ?_ ?_
                      rotate_left
                      ·
                       show Act.put _ (some 109) _ = _
                       simp only [Act.put, List.setIfInBounds_toArray, List.set_cons_zero, List.set_cons_succ, i64_w, i32_w]
                       rfl
                      refine done_ (by kernel_rfl) ?_
                      try go_wp2
                      go_ret2
                      exact ⟨_, by first | rfl | (simp [errW_none, errW_some] <;> rfl) | (simp only [← hji22]; first | rfl | (simp [errW_none, errW_some] <;> rfl)) | (simp [*, errW_none, errW_some] <;> rfl), by first | exact Kd.R_nil _ _ _ _ _ | exact Kd.N_nil _ _ _ _ _ | exact Kd.V_nil _ _ _ _ _ | exact Kd.Q_nil _ _ _ _ _ | exact Kd.S_nil _ _ _ _ _, bs HB.out⟩
                     ·
                      replace c62 := Bool.eq_false_iff.mpr c62
                      subst c62
                      have H1 : (search_Trace.l1 kj38 l1 t182 x9_2 x10_2 (wrap64 (x12_3 - 1)) l0_0 ((rd_T50 l0_0 x10_2).f0.f0) ((rd_T50 l0_0 x10_2).f0.f1) ((rd_T50 l0_0 x10_2).f0.f2) ((rd_T50 l0_0 x10_2).f0.f3) ((rd_T50 l0_0 x10_2).f0.f4) ((rd_T50 l0_0 x10_2).f1) ((rd_T50 l0_0 x10_2).f2) ((rd_T50 l0_0 x10_2).f3.f0) ((rd_T50 l0_0 x10_2).f3.f1) ((rd_T50 l0_0 x10_2).f3.f2) ((rd_T50 l0_0 x10_2).f3.f3) ((rd_T50 l0_0 x10_2).f3.f4)) = some (r1, r2) := by rw [if_neg (show ¬ (false = true) by decide)] at H; exact H
                      clear H
                      have H := H1
                      clear H1
                      have H' := Aside0.mk H
                      clear H
                      try go_wp2
                      have n0_ := Aside0.mk (Kd.N_drew HO_8.out)
                      have n1_ := Aside0.mk (Kd.R_drew HO_9.out)
                      have n2_ := Aside0.mk (blk_drew BK181.out)
                      have n3_ := Aside0.mk (blk_drew BK192.out)
                      have n4_ := Aside0.mk (below_drew1 HB.out)
                      clear HO_8
                      clear HO_9
                      clear BK181
                      clear BK192
                      clear HB
                      have HO_8 := n0_
                      have HO_9 := n1_
                      have BK181 := n2_
                      have BK192 := n3_
                      have HB := n4_
                      clear n0_ n1_ n2_ n3_ n4_
                      have p199 : 0 ≤ (x12_3 : Int) := of_decide_eq_true (by first | (with_reducible assumption) | assumption)
                      have q199 : x12_3 < (l1.length : Int) := of_decide_eq_true (by first | (with_reducible assumption) | assumption)
                      obtain ⟨ad199, e199, hx199_0, hx199_1, hx199_2, hx199_3, hx199_4, hx199_5, hx199_6, hx199_7, hx199_8⟩ := at_T46 HR1.out x12_3 p199 q199
                      have hw199_8 := hx199_8
                      have hw199_7 := hx199_7
                      have hw199_6 := hx199_6
                      have hw199_5 := hx199_5
                      have hw199_4 := hx199_4
                      have hw199_3 := hx199_3
                      have hw199_2 := hx199_2
                      have hw199_1 := hx199_1
                      have hw199_0 := hx199_0
                      cases e199
                      replace hx199_0 := pw_cell_below HB.out hx199_0
                      replace hx199_1 := pw_cell_below HB.out hx199_1
                      replace hx199_2 := pw_cell_below HB.out hx199_2
                      replace hx199_3 := pw_cell_below HB.out hx199_3
                      replace hx199_4 := pw_cell_below HB.out hx199_4
                      replace hx199_5 := pw_cell_below HB.out hx199_5
                      replace hx199_6 := pw_cell_below HB.out hx199_6
                      replace hx199_7 := pw_cell_below HB.out hx199_7
                      replace hx199_8 := pw_cell_below HB.out hx199_8
                      replace p199 := eq_true p199
                      replace q199 := eq_true q199
                      refine start_ (n := 6) (S := fun w' => w'.cell? ⟨gb192, 0, none⟩ = some (.int .i64 ((rd_T50 l0_0 x10_2).f0.f0)) ∧ w'.cell? ⟨gb192, 1, none⟩ = some (.int .i64 ((rd_T50 l0_0 x10_2).f0.f1)) ∧ w'.cell? ⟨gb192, 2, none⟩ = some (.int .i64 ((rd_T50 l0_0 x10_2).f0.f2)) ∧ w'.cell? ⟨gb192, 3, none⟩ = some (.int .i64 ((rd_T50 l0_0 x10_2).f0.f3)) ∧ w'.cell? ⟨gb192, 4, none⟩ = some (.int .i64 ((rd_T50 l0_0 x10_2).f0.f4)) ∧ w'.cell? ⟨gb192, 5, none⟩ = some (.int .i64 ((rd_T50 l0_0 x10_2).f1)) ∧ w'.cell? ⟨gb192, 6, none⟩ = some (.bool ((rd_T50 l0_0 x10_2).f2)) ∧ w'.cell? ⟨gb192, 7, none⟩ = some (.int .i64 ((rd_T50 l0_0 x10_2).f3.f0)) ∧ w'.cell? ⟨gb192, 8, none⟩ = some (.int .i64 ((rd_T50 l0_0 x10_2).f3.f1)) ∧ w'.cell? ⟨gb192, 9, none⟩ = some (.int .i64 ((rd_T50 l0_0 x10_2).f3.f2)) ∧ w'.cell? ⟨gb192, 10, none⟩ = some (.int .i64 ((rd_T50 l0_0 x10_2).f3.f3)) ∧ w'.cell? ⟨gb192, 11, none⟩ = some (.int .i64 ((rd_T50 l0_0 x10_2).f3.f4)) ∧ w'.cell? (ad199.add ((x12_3).toNat * 9)) = some (.int .i64 ((rd_T46 l1 x12_3).f0)) ∧ w'.cell? ⟨(ad199.add ((x12_3).toNat * 9)).block, (ad199.add ((x12_3).toNat * 9)).off + 1, none⟩ = some (.int .i64 ((rd_T46 l1 x12_3).f1)) ∧ w'.cell? ⟨(ad199.add ((x12_3).toNat * 9)).block, (ad199.add ((x12_3).toNat * 9)).off + 2, none⟩ = some (.int .i64 ((rd_T46 l1 x12_3).f2.f0)) ∧ w'.cell? ⟨(ad199.add ((x12_3).toNat * 9)).block, (ad199.add ((x12_3).toNat * 9)).off + 3, none⟩ = some (.int .i64 ((rd_T46 l1 x12_3).f2.f1)) ∧ w'.cell? ⟨(ad199.add ((x12_3).toNat * 9)).block, (ad199.add ((x12_3).toNat * 9)).off + 4, none⟩ = some (.int .i64 ((rd_T46 l1 x12_3).f2.f2)) ∧ w'.cell? ⟨(ad199.add ((x12_3).toNat * 9)).block, (ad199.add ((x12_3).toNat * 9)).off + 5, none⟩ = some (.int .i64 ((rd_T46 l1 x12_3).f2.f3)) ∧ w'.cell? ⟨(ad199.add ((x12_3).toNat * 9)).block, (ad199.add ((x12_3).toNat * 9)).off + 6, none⟩ = some (.int .i64 ((rd_T46 l1 x12_3).f2.f4)) ∧ w'.cell? ⟨(ad199.add ((x12_3).toNat * 9)).block, (ad199.add ((x12_3).toNat * 9)).off + 7, none⟩ = some (.string ((rd_T46 l1 x12_3).f2.f5)) ∧ w'.cell? ⟨(ad199.add ((x12_3).toNat * 9)).block, (ad199.add ((x12_3).toNat * 9)).off + 8, none⟩ = some (.int .i64 ((rd_T46 l1 x12_3).f2.f6))) (ds := []) (bsq 0 6) (by kernel_rfl) rfl rfl ⟨(blk_cell BK192.out 0).trans rfl, (blk_cell BK192.out 1).trans rfl, (blk_cell BK192.out 2).trans rfl, (blk_cell BK192.out 3).trans rfl, (blk_cell BK192.out 4).trans rfl, (blk_cell BK192.out 5).trans rfl, (blk_cell BK192.out 6).trans rfl, (blk_cell BK192.out 7).trans rfl, (blk_cell BK192.out 8).trans rfl, (blk_cell BK192.out 9).trans rfl, (blk_cell BK192.out 10).trans rfl, (blk_cell BK192.out 11).trans rfl, ((HB.out.cell (World.block_lt_of_cell? w _ hw199_0)).trans hw199_0), ((HB.out.cell (World.block_lt_of_cell? w _ hw199_1)).trans hw199_1), ((HB.out.cell (World.block_lt_of_cell? w _ hw199_2)).trans hw199_2), ((HB.out.cell (World.block_lt_of_cell? w _ hw199_3)).trans hw199_3), ((HB.out.cell (World.block_lt_of_cell? w _ hw199_4)).trans hw199_4), ((HB.out.cell (World.block_lt_of_cell? w _ hw199_5)).trans hw199_5), ((HB.out.cell (World.block_lt_of_cell? w _ hw199_6)).trans hw199_6), ((HB.out.cell (World.block_lt_of_cell? w _ hw199_7)).trans hw199_7), ((HB.out.cell (World.block_lt_of_cell? w _ hw199_8)).trans hw199_8)⟩ (fun hHeld => ?_)
                      generalize wc.drew = w65 at HO_8 HO_9 BK181 BK192 HB hx199_0 hx199_1 hx199_2 hx199_3 hx199_4 hx199_5 hx199_6 hx199_7 hx199_8 hHeld ⊢
                      refine puk 1 105 (bls [0, 1, 1, 4]) ?_
                      refine puk 2 106 (bls [0, 1, 2, 3]) ?_
                      refine puk 3 107 (bls [0, 1, 3, 2]) ?_
                      refine tkk 0 104 (bsq 4 2) hHeld ?_ (he := by rintro w' ⟨s0, s1, s2, s3, s4, s5, s6, s7, s8, s9, s10, s11, s12, s13, s14, s15, s16, s17, s18, s19, s20⟩; go_simp; with_reducible rfl)
                      refine tkk 4 108 (bsq 5 1) hHeld ?_ (he := by rintro w' ⟨s0, s1, s2, s3, s4, s5, s6, s7, s8, s9, s10, s11, s12, s13, s14, s15, s16, s17, s18, s19, s20⟩; go_simp; with_reducible rfl)
                      refine one_ (i := 5) (N := some 109) (bsq 6 0) rfl rfl (by kernel_rfl) (by decide) (fun K hK => ?_)
                      refine goes_ Try.func64 (by kernel_rfl) rfl #[.agg #[.int .i64 ((rd_T50 l0_0 x10_2).f0.f0), .int .i64 ((rd_T50 l0_0 x10_2).f0.f1), .int .i64 ((rd_T50 l0_0 x10_2).f0.f2), .int .i64 ((rd_T50 l0_0 x10_2).f0.f3), .int .i64 ((rd_T50 l0_0 x10_2).f0.f4), .int .i64 ((rd_T50 l0_0 x10_2).f1), .bool ((rd_T50 l0_0 x10_2).f2), .int .i64 ((rd_T50 l0_0 x10_2).f3.f0), .int .i64 ((rd_T50 l0_0 x10_2).f3.f1), .int .i64 ((rd_T50 l0_0 x10_2).f3.f2), .int .i64 ((rd_T50 l0_0 x10_2).f3.f3), .int .i64 ((rd_T50 l0_0 x10_2).f3.f4)], .agg #[.int .i64 ((rd_T46 l1 x12_3).f0), .int .i64 ((rd_T46 l1 x12_3).f1), .int .i64 ((rd_T46 l1 x12_3).f2.f0), .int .i64 ((rd_T46 l1 x12_3).f2.f1), .int .i64 ((rd_T46 l1 x12_3).f2.f2), .int .i64 ((rd_T46 l1 x12_3).f2.f3), .int .i64 ((rd_T46 l1 x12_3).f2.f4), .string ((rd_T46 l1 x12_3).f2.f5), .int .i64 ((rd_T46 l1 x12_3).f2.f6)]] (by rfl) rfl rfl (by (try simp only [List.map_toArray, List.map_cons, List.map_nil]); first | done | rfl | (simp only [List.length_drop, List.length_take]; rfl)) ?_
                      with_reducible refine (search_forbids.calls kj38 ((rd_T50 l0_0 x10_2).f0.f0) ((rd_T50 l0_0 x10_2).f0.f1) ((rd_T50 l0_0 x10_2).f0.f2) ((rd_T50 l0_0 x10_2).f0.f3) ((rd_T50 l0_0 x10_2).f0.f4) ((rd_T50 l0_0 x10_2).f1) ((rd_T50 l0_0 x10_2).f2) ((rd_T50 l0_0 x10_2).f3.f0) ((rd_T50 l0_0 x10_2).f3.f1) ((rd_T50 l0_0 x10_2).f3.f2) ((rd_T50 l0_0 x10_2).f3.f3) ((rd_T50 l0_0 x10_2).f3.f4) ((rd_T46 l1 x12_3).f0) ((rd_T46 l1 x12_3).f1) ((rd_T46 l1 x12_3).f2.f0) ((rd_T46 l1 x12_3).f2.f1) ((rd_T46 l1 x12_3).f2.f2) ((rd_T46 l1 x12_3).f2.f3) ((rd_T46 l1 x12_3).f2.f4) ((rd_T46 l1 x12_3).f2.f5) ((rd_T46 l1 x12_3).f2.f6) false _ A61.out).mono ?_
                      rintro e w66 ⟨rfl, hb⟩
                      refine ⟨_, rfl, ?_⟩
                      have n0_ := Aside0.mk (Kd.N_below (by (with_reducible repeat (first | apply Kd.N_alloc | apply Kd.N_drewN | apply Kd.N_drew)); exact HO_8.out) hb)
                      have n1_ := Aside0.mk (Kd.R_below (rq HO_9.out) hb)
                      have n2_ := Aside0.mk (blk_below (bg BK181.out) hb)
                      have n3_ := Aside0.mk (blk_below (bg BK192.out) hb)
                      have n4_ := Aside0.mk (below_step (bs HB.out) hb)
                      clear HO_8
                      clear HO_9
                      clear BK181
                      clear BK192
                      clear HB
                      have HO_8 := n0_
                      have HO_9 := n1_
                      have BK181 := n2_
                      have BK192 := n3_
                      have HB := n4_
                      clear n0_ n1_ n2_ n3_ n4_
                      (try clear hb)
                      (try clear hb2)
                      (try clear hk)
                      (try clear hi)
                      refine hK.out _ _ ⟨(blk_cell BK192.out 0).trans rfl, (blk_cell BK192.out 1).trans rfl, (blk_cell BK192.out 2).trans rfl, (blk_cell BK192.out 3).trans rfl, (blk_cell BK192.out 4).trans rfl, (blk_cell BK192.out 5).trans rfl, (blk_cell BK192.out 6).trans rfl, (blk_cell BK192.out 7).trans rfl, (blk_cell BK192.out 8).trans rfl, (blk_cell BK192.out 9).trans rfl, (blk_cell BK192.out 10).trans rfl, (blk_cell BK192.out 11).trans rfl, ((HB.out.cell (World.block_lt_of_cell? w _ hw199_0)).trans hw199_0), ((HB.out.cell (World.block_lt_of_cell? w _ hw199_1)).trans hw199_1), ((HB.out.cell (World.block_lt_of_cell? w _ hw199_2)).trans hw199_2), ((HB.out.cell (World.block_lt_of_cell? w _ hw199_3)).trans hw199_3), ((HB.out.cell (World.block_lt_of_cell? w _ hw199_4)).trans hw199_4), ((HB.out.cell (World.block_lt_of_cell? w _ hw199_5)).trans hw199_5), ((HB.out.cell (World.block_lt_of_cell? w _ hw199_6)).trans hw199_6), ((HB.out.cell (World.block_lt_of_cell? w _ hw199_7)).trans hw199_7), ((HB.out.cell (World.block_lt_of_cell? w _ hw199_8)).trans hw199_8)⟩ (fun hHeld => ?_)
                      clear hK K
                      refine norm_ (a' := ?_) ?_ ?_
                      rotate_left
                      ·
                       show Act.put _ (some 109) _ = _
                       simp only [Act.put, List.setIfInBounds_toArray, List.set_cons_zero, List.set_cons_succ, i64_w, i32_w]
                       rfl
                      refine done_ (by kernel_rfl) ?_
                      try go_wp2
                      go_roundg kj38
                      case measure => have := HJ4.out; have := HK2.out; have := HK3.out; have := HJ38.out; omega
                      case rel => exact ⟨(wrap64 (x12_3 - 1)), (by first | rfl | (simp; done) | (simp [*]; done)), H', ⟨by have := HJ4.out; have := HK2.out; have := HK3.out; have := HJ38.out; omega⟩, ⟨by (try simp only [hl9_2]); (with_reducible repeat (first | apply Kd.N_alloc | apply Kd.N_drewN | apply Kd.N_drew)); exact HO_8.out⟩, ⟨by (try simp only [hl9_2]); (with_reducible repeat (first | apply Kd.R_alloc | apply Kd.R_drewN | apply Kd.R_drew)); exact HO_9.out⟩, ⟨by (try simp only [hl9_2]); exact bg BK181.out⟩, ⟨by (try simp only [hl9_2]); exact bg BK192.out⟩, ⟨bs HB.out⟩⟩
                    ·
                     rw [if_neg c60] at H
                     exact absurd H (by simp)
                   ·
                    rw [if_neg c59] at H
                    exact absurd H (by simp)
                  ·
                   replace c58 := Bool.eq_false_iff.mpr c58
                   subst c58
                   have H1 : (if x12_3 < 0 then (some (([] : List Int), false)) else (if 0 ≤ (wrap64 (x10_2 - 1)) then (if (wrap64 (x10_2 - 1)) < (x9_2.length : Int) then (search_Trace.l0 kj38 l1 t182 (x9_2.set ((wrap64 (x10_2 - 1)) : Int).toNat x12_3) (wrap64 (x10_2 - 1)) l0_0) else (none)) else (none))) = some (r1, r2) := by rw [if_neg (show ¬ (false = true) by decide)] at H; exact H
                   clear H
                   have H := H1
                   clear H1
                   by_cases c67 : x12_3 < 0
                   ·
                    rw [if_pos c67] at H
                    have c67b0 : decide (x12_3 < 0) = true := decide_eq_true c67
                    clear c67
                    simp only [Option.some.injEq, Prod.mk.injEq] at H
                    obtain ⟨rfl, rfl⟩ := H
                    go_wp2
                    go_ret2
                    exact ⟨_, by first | rfl | (simp [errW_none, errW_some] <;> rfl) | (simp only [← hji22]; first | rfl | (simp [errW_none, errW_some] <;> rfl)) | (simp [*, errW_none, errW_some] <;> rfl), by first | exact Kd.R_nil _ _ _ _ _ | exact Kd.N_nil _ _ _ _ _ | exact Kd.V_nil _ _ _ _ _ | exact Kd.Q_nil _ _ _ _ _ | exact Kd.S_nil _ _ _ _ _, bs HB.out⟩
                   ·
                    rw [if_neg c67] at H
                    have c67b0 : decide (x12_3 < 0) = false := decide_eq_false c67
                    clear c67
                    obtain ⟨ji68, hji68⟩ : ∃ j_ : Int, (wrap64 (x10_2 - 1)) = j_ := ⟨_, rfl⟩
                    replace H : (if 0 ≤ (ji68) then (if (ji68) < (x9_2.length : Int) then (search_Trace.l0 kj38 l1 t182 (x9_2.set ((ji68) : Int).toNat x12_3) ji68 l0_0) else (none)) else (none)) = some (r1, r2) := by first | (rw [hji68] at H; exact H) | (simp only [hji68] at H ⊢; exact H)
                    have hji68w : (IntKind.i64.wrap (x10_2 - 1)) = ji68 := (i64_w _).trans hji68
                    by_cases c69 : 0 ≤ (ji68)
                    ·
                     rw [if_pos c69] at H
                     have c69b0 : decide (0 ≤ (ji68)) = true := decide_eq_true c69
                     clear c69
                     by_cases c70 : (ji68) < (x9_2.length : Int)
                     ·
                      rw [if_pos c70] at H
                      have c70b0 : decide ((ji68) < (x9_2.length : Int)) = true := decide_eq_true c70
                      clear c70
                      obtain ⟨y201, hy201⟩ : ∃ y_ : List Int, y_ = (x9_2.set ((ji68) : Int).toNat x12_3) := ⟨_, rfl⟩
                      replace H : (search_Trace.l0 kj38 l1 t182 y201 ji68 l0_0) = some (r1, r2) := by first | (rw [hy201]; with_reducible exact H) | (have H2_ := (Option.bind_some _ _).symm.trans H; rw [hy201]; with_reducible exact H2_) | (have H2_ := (Option.bind_some _ _).symm.trans H; with_reducible exact H2_) | with_reducible exact H | (rw [hy201]; exact H) | exact H
                      have Ny201 := Aside0.mk hy201
                      clear hy201
                      have H' := Aside0.mk H
                      clear H
                      have p71 : 0 ≤ ((ji68) : Int) := of_decide_eq_true (by first | (with_reducible assumption) | assumption)
                      have q71 : ((ji68) : Int) < ((x9_2.length : Int) : Int) := of_decide_eq_true (by first | (with_reducible assumption) | assumption)
                      obtain ⟨hx71_0, hf71_0⟩ := Kd.R_celln 0 HO_9.out ((ji68) : Int) p71 q71
                      replace p71 := eq_true p71
                      replace q71 := eq_true q71
                      have HP72 := Kd.R_putg HO_9.out ((ji68) : Int) x12_3
                      go_wp2_with (first | ((with_reducible refine gate_store (t := 3) (p := 118) rfl ?_); refine store_event (t := 3) (p := 118) (v := ?vo_w73) (w1 := (wc.setCell ⟨go25, ((ji68) : Int).toNat, none⟩ (.int .i64 x12_3))) ?hg ?ho ?hn ?hr ?_; (case ho => rfl); (case hg => rfl); (case hn => rfl); (case hr => first | (go_simp; done) | (go_simp; rfl)); intro w73 hw; have hg : wc.grownBy w73 (some go25) := (by rw [hw]; exact HP72.2); have hp_ : Kd.R (Kd.int .i64) 3 w73 w.heap.size (fun _ => True) (.slice (some ⟨go25, 0, none⟩) x9_2.length co25) y201 := (by rw [hw, Ny201.out]; exact HP72.1); clear HP72; have n0_ := Aside0.mk (Kd.N_afterv (v := (.slice (some ⟨go25, 0, none⟩) x9_2.length co25)) (v1 := (.slice (some ⟨go25, 0, none⟩) x9_2.length co25)) (ok := (fun k_ => k_ ≠ gb181 ∧ k_ ≠ gb192)) (by (with_reducible repeat (first | apply Kd.N_alloc | apply Kd.N_drewN | apply Kd.N_drew)); exact Kd.N_mono HO_8.out (fun _ hk => ⟨⟨hk.2.1, hk.2.2⟩, hk.1⟩)) hg (.inl rfl)); have n1_ := Aside0.mk (hp_); have n2_ := Aside0.mk (blk_grown (g := gb181) (o := .cells #[.slice (some ad191) l0_0.length c0_0] 31 (0, 0)) (bg BK181.out) hg (Kd.R_ne HO_9.out BK181.out (by decide))); have n3_ := Aside0.mk (blk_grown (g := gb192) (o := .cells #[.int .i64 ((rd_T50 l0_0 x10_2).f0.f0), .int .i64 ((rd_T50 l0_0 x10_2).f0.f1), .int .i64 ((rd_T50 l0_0 x10_2).f0.f2), .int .i64 ((rd_T50 l0_0 x10_2).f0.f3), .int .i64 ((rd_T50 l0_0 x10_2).f0.f4), .int .i64 ((rd_T50 l0_0 x10_2).f1), .bool ((rd_T50 l0_0 x10_2).f2), .int .i64 ((rd_T50 l0_0 x10_2).f3.f0), .int .i64 ((rd_T50 l0_0 x10_2).f3.f1), .int .i64 ((rd_T50 l0_0 x10_2).f3.f2), .int .i64 ((rd_T50 l0_0 x10_2).f3.f3), .int .i64 ((rd_T50 l0_0 x10_2).f3.f4)] 50 (0, 0)) (bg BK192.out) hg (Kd.R_ne HO_9.out BK192.out (by decide))); have n4_ := Aside0.mk ((by rw [hw]; exact below_set (HB.out) GB25.out : Below w.heap.size w w73)); clear HO_8; clear HO_9; clear BK181; clear BK192; clear HB; have HO_8 := n0_; have HO_9 := n1_; have BK181 := n2_; have BK192 := n3_; have HB := n4_; clear n0_ n1_ n2_ n3_ n4_; clear hg hw hp_))
                      (try simp only [← hl9_2])
                      go_roundg kj38
                      case measure => have := HJ4.out; have := HK2.out; have := HK3.out; have := HJ38.out; omega
                      case rel => exact ⟨(y201), (ji68), (by first | rfl | (simp; done) | (simp only [← hji68] <;> (first | rfl | simp)) | (simp [*]; done)), H', ⟨by have := HJ4.out; have := HK2.out; have := HK3.out; have := HJ38.out; omega⟩, ⟨by (try simp only [hl9_2]); (with_reducible repeat (first | apply Kd.N_alloc | apply Kd.N_drewN | apply Kd.N_drew)); exact Kd.N_mono HO_8.out (fun _ hk => ⟨hk.2, hk.1.1⟩)⟩, ⟨by (try simp only [hl9_2]); (with_reducible repeat (first | apply Kd.R_alloc | apply Kd.R_drewN | apply Kd.R_drew)); exact HO_9.out⟩, ⟨by (try simp only [hl9_2]); exact bg BK181.out⟩, ⟨bs HB.out⟩⟩
                     ·
                      rw [if_neg c70] at H
                      exact absurd H (by simp)
                    ·
                     rw [if_neg c69] at H
                     exact absurd H (by simp)
             ·
              rw [if_neg c34] at H
              exact absurd H (by simp)
            ·
             rw [if_neg c33] at H
             exact absurd H (by simp)
           ·
            rw [if_neg c32] at H
            exact absurd H (by simp)
          ·
           rw [if_neg c31] at H
           have c31b0 : decide (0 < x10_2) = false := decide_eq_false c31
           clear c31
           simp only [Option.some.injEq, Prod.mk.injEq] at H
           obtain ⟨rfl, rfl⟩ := H
           go_wp2
           go_ret2
           exact ⟨_, by first | rfl | (simp [errW_none, errW_some] <;> rfl) | (simp only [← hji22]; first | rfl | (simp [errW_none, errW_some] <;> rfl)) | (simp [*, errW_none, errW_some] <;> rfl), by (with_reducible repeat (first | apply Kd.R_alloc | apply Kd.R_drewN | apply Kd.R_drew)); exact HO_9.out, bs HB.out⟩
       ·
        rw [if_neg c24] at H
        exact absurd H (by simp)
      ·
       rw [if_neg c23] at H
       exact absurd H (by simp)
     ·
      rw [if_neg c21] at H
      exact absurd H (by simp)
    ·
     rw [if_neg c20] at H
     exact absurd H (by simp)

end Go.Proofs.Ytgdjiphljadlcaa.K
