-- Printed by wip/hprint.py (this project's own driver of the kit's print) out of the translation; Lean checks it.
import Derived.Test.YtgdjiphljadlcaaK0
import Derived.Test.YtgdjiphljadlcaaK18
import Derived.Test.YtgdjiphljadlcaaK28
import Derived.Test.YtgdjiphljadlcaaK29
namespace Go.Proofs.Ytgdjiphljadlcaa.K
open Go.RowKit Go.Proofs.YtgdjiphljadlcaaW.PrintWords Go.Proofs.YtgdjiphljadlcaaW.PrintLast Go.Proofs.YtgdjiphljadlcaaW.PrintMore
attribute [local go_sem] max2_int min2_int max_two min_two max_three min_three max_four min_four   -- for this text's walks alone
set_option linter.unusedVariables false
set_option linter.unusedSimpArgs false

/-! ### signalbenchref47_Trace: function 35 -/
mutual
def signalbenchref47_Trace.j0 : Nat → List (S46) → Int → Bool → List (S50) → Option (List Int × Bool)
 | 0, _, _, _, _ => none
 | k + 1, x1, x2, x24, x415000 => if x24 = true then (some (([] : List Int), false)) else ((signalbenchref47_ends.f k x415000 x1).bind fun t416 => (if 0 ≤ (wrap64 ((x415000.length : Int) - 1)) then (if (wrap64 ((x415000.length : Int) - 1)) < (t416.length : Int) then (if 0 ≤ x2 then (if x2 < ((rd_L11 t416 (wrap64 ((x415000.length : Int) - 1))).length : Int) then (if (rdOf false (rd_L11 t416 (wrap64 ((x415000.length : Int) - 1))) x2 = true) then (if 0 ≤ (x415000.length : Int) then (if ((x415000.length : Int) : Int).toNat ≤ 35184372088832 then ((some (List.replicate ((x415000.length : Int) : Int).toNat 0 : List Int)).bind fun y421 => (if (wrap64 ((x415000.length : Int) - 1)) < (y421.length : Int) then (signalbenchref47_Trace.l0 k x1 t416 (y421.set ((wrap64 ((x415000.length : Int) - 1)) : Int).toNat x2) (wrap64 ((x415000.length : Int) - 1)) x415000) else (none))) else (none)) else (none)) else (some (([] : List Int), false))) else (none)) else (none)) else (none)) else (none)))
def signalbenchref47_Trace.l0 : Nat → List (S46) → List (List Bool) → List Int → Int → List (S50) → Option (List Int × Bool)
 | 0, _, _, _, _, _ => none
 | k + 1, x1, x8, x10, x11, x415000 => if x11 > 0 then (if 0 ≤ (wrap64 (x11 - 1)) then (if (wrap64 (x11 - 1)) < (x8.length : Int) then (if 0 ≤ x11 then (if x11 < (x10.length : Int) then ((signalbenchref47_before.f k x415000 x1 (rd_L11 x8 (wrap64 (x11 - 1))) x11 (rd x10 x11)).bind fun t427 => (if (wrap64 (x11 - 1)) < (x10.length : Int) then (signalbenchref47_Trace.l0 k x1 x8 (x10.set ((wrap64 (x11 - 1)) : Int).toNat t427) (wrap64 (x11 - 1)) x415000) else (none))) else (none)) else (none)) else (none)) else (none)) else (some (x10, true))
end
def signalbenchref47_Trace.f (k : Nat) (l0_0 : List (S50)) (l1 : List (S46)) (a2 : Int) : Option (List Int × Bool) := (signalbenchref44_Check.f k l0_0).bind fun t415 => (if t415 = 0 then (if a2 < 0 then (signalbenchref47_Trace.j0 k l1 a2 true l0_0) else (signalbenchref47_Trace.j0 k l1 a2 (decide (a2 ≥ (l1.length : Int))) l0_0)) else (signalbenchref47_Trace.j0 k l1 a2 true l0_0))
def signalbenchref47_Trace.T12 : Bool × List (List Nat × List Nat) := (true, [([], []), ([], []), ([1], [1]), ([], []), ([], []), ([], []), ([], []), ([6], [6]), ([5, 7], [5, 7]), ([8], [8]), ([], []), ([], []), ([], []), ([11, 12], [11, 12]), ([13], [13]), ([3, 4, 9, 10, 14], [3, 4, 9, 10, 14]), ([0, 2, 0, 1, 2, 3, 4, 5, 6, 7, 8, 9, 10, 11, 12, 13, 14, 15], [0, 2]), ([16, 15, 15, 0, 1, 2, 3, 4, 5, 6, 7, 8, 9, 10, 11, 12, 13, 14, 15], [15, 16])])
def signalbenchref47_Trace.B12 : List Nat := [0, 0, 2, 0, 0, 0, 0, 64, 224, 480, 0, 0, 0, 6144, 14336, 32760, 65535, 131071]
theorem signalbenchref47_Trace.tab12 : rtab .any (opsOf Try.f35 12) = signalbenchref47_Trace.T12 := by kernel_rfl
theorem signalbenchref47_Trace.bits12 : waitsOk signalbenchref47_Trace.T12.2 signalbenchref47_Trace.B12 = true := by kernel_rfl
set_option maxHeartbeats 8000000 in
set_option maxRecDepth 100000 in
theorem signalbenchref47_Trace.calls (k : Nat) (A0_0 : Option Addr) (c0_0 : Nat) (l0_0 : List (S50)) (A1 : Option Addr) (c1 : Nat) (l1 : List (S46)) (a2 : Int) (r1 : List Int) (r2 : Bool) (w : World) (hr0_0 : Kd.C k50 w A0_0 l0_0.length l0_0) (hc0_0 : l0_0.length ≤ c0_0) (hr1 : Kd.C k46 w A1 l1.length l1) (hc1 : l1.length ≤ c1) (h : signalbenchref47_Trace.f k l0_0 l1 a2 = some (r1, r2)) :
  Calls Try.prog 35 #[.agg #[.slice A0_0 l0_0.length c0_0], .slice A1 l1.length c1, .int .i64 a2] w fun e w' => ∃ v0_ : Value, e = .returned (.tuple #[v0_, .bool r2]) ∧ Kd.R (Kd.int .i64) 3 w' w.heap.size (fun _ => True) v0_ r1 ∧ Below w.heap.size w w' := by
 have hu31 := Try.underlying31
 have HR0_0 := Aside0.mk hr0_0
 have HC0_0 := Aside0.mk hc0_0
 clear hr0_0 hc0_0
 have HR1 := Aside0.mk hr1
 have HC1 := Aside0.mk hc1
 clear hr1 hc1
 have HB := Aside0.mk (Below.refl w.heap.size w)
 have H : ((signalbenchref44_Check.f k l0_0).bind fun t415 => (if t415 = 0 then (if a2 < 0 then (signalbenchref47_Trace.j0 k l1 a2 true l0_0) else (signalbenchref47_Trace.j0 k l1 a2 (decide (a2 ≥ (l1.length : Int))) l0_0)) else (signalbenchref47_Trace.j0 k l1 a2 true l0_0))) = some (r1, r2) := h
 clear h
 have HC4 := Aside0.mk H
 clear H
 go_enter Try.func35, Try.ntmps35
 go_upto_region 1 with (first | ((with_reducible refine gate_dst (N := 3) rfl ?_); (try (refine gate_guard (by rfl) ?_; dsimp only)); refine box_event ?hg (N := 3) ?hd (cs := #[.slice A0_0 l0_0.length c0_0]) (t := 31) ?hr ?_; (case hd => rfl); (case hg => rfl); (case hr => first | (go_simp; done) | (go_simp; rfl)); intro gb414 hg w5 hbox hb; have n0_ := Aside0.mk (below_step (bs HB.out) hb); have n1_ := Aside0.mk (hbox); have n2_ := Aside0.mk ((by rw [hg]; exact (below_size (bs HB.out)) : w.heap.size ≤ gb414)); have n3_ := n2_; clear HB; have HB := n0_; have BK414 := n1_; have GW414 := n2_; have GE414 := n3_; clear n0_ n1_ n2_ n3_; clear hb hbox hg))
 (try simp only [Act.put, List.setIfInBounds_toArray, List.set_cons_zero, List.set_cons_succ])
 go_cut [24] (fun v24 wc => ∃ (kq : Nat) (x24_3 : Bool), v24 = .bool x24_3 ∧ Aside0 (signalbenchref47_Trace.j0 kq l1 a2 x24_3 l0_0 = some (r1, r2)) ∧ Aside0 (kq ≤ k) ∧ Aside0 (wc.heap[gb414]? = some (.cells #[(.slice A0_0 l0_0.length c0_0)] 31 (0, 0))) ∧ Aside0 (Below w.heap.size w wc))
 case first =>
  have H := HC4.out
  clear HC4
  replace H := Option.bind_eq_some_iff.mp H
  obtain ⟨t415, A60, H⟩ := H
  replace H : (if t415 = 0 then (if a2 < 0 then (signalbenchref47_Trace.j0 k l1 a2 true l0_0) else (signalbenchref47_Trace.j0 k l1 a2 (decide (a2 ≥ (l1.length : Int))) l0_0)) else (signalbenchref47_Trace.j0 k l1 a2 true l0_0)) = some (r1, r2) := H
  have A6 := Aside0.mk A60
  clear A60
  by_cases c7 : t415 = 0
  ·
   rw [if_pos c7] at H
   have c7b0 : (t415 == 0) = true := beq_iff_eq.mpr c7
   have c7b1 : (t415 != 0) = false := bne_eq_false_iff_eq.mpr c7
   clear c7
   (first | rw [c7b0] | (simp only [i64_w, i32_w]; rw [c7b0]) | skip)
   by_cases c8 : a2 < 0
   ·
    rw [if_pos c8] at H
    have c8b0 : decide (a2 < 0) = true := decide_eq_true c8
    clear c8
    have H' := Aside0.mk H
    clear H
    have hcz9_0 : w5.cell? ⟨gb414, 0, none⟩ = some (.slice A0_0 l0_0.length c0_0) := (blk_cell BK414.out 0).trans rfl
    have hfz9_0 := blk_frozen BK414.out 0
    go_wp2_with (first | ((with_reducible refine gate_callee (f := 21) rfl ?_); refine goesL_ (some 13) rfl rfl Try.func21 (by kernel_rfl) rfl #[.agg #[.slice A0_0 l0_0.length c0_0]] rfl (by (try simp only [List.map_toArray, List.map_cons, List.map_nil]); first | done | rfl | (simp only [List.length_drop, List.length_take]; rfl)) ?_; (with_reducible refine (signalbenchref44_Check.calls k _ _ l0_0 t415 _ ?side1 ?side2 A6.out).mono ?_); (case side1 => repeat (first | exact (Kd.C_below HR0_0.out HB.out) | (with_reducible refine Kd.C_alloc ?_ _) | (with_reducible refine Kd.C_drewN ?_ _) | (with_reducible refine Kd.C_drew ?_))); (case side2 => exact HC0_0.out); rintro e w10 ⟨rfl, hb⟩; refine ⟨_, rfl, ?_⟩; have n0_ := Aside0.mk (blk_below (bg BK414.out) hb); have n1_ := Aside0.mk (below_step (bs HB.out) hb); clear BK414; clear HB; have BK414 := n0_; have HB := n1_; clear n0_ n1_; (try clear hb); (try clear hb2); (try clear hk); (try clear hi)))
    go_meet
    case rel => exact ⟨_, (true), (by first | rfl | (simp; done) | (simp [*]; done)), H', ⟨by first | omega | exact Nat.le_refl _⟩, ⟨bg BK414.out⟩, ⟨bs HB.out⟩⟩
   ·
    rw [if_neg c8] at H
    have c8b0 : decide (a2 < 0) = false := decide_eq_false c8
    clear c8
    have H' := Aside0.mk H
    clear H
    have hcz11_0 : w5.cell? ⟨gb414, 0, none⟩ = some (.slice A0_0 l0_0.length c0_0) := (blk_cell BK414.out 0).trans rfl
    have hfz11_0 := blk_frozen BK414.out 0
    go_wp2_with (first | ((with_reducible refine gate_callee (f := 21) rfl ?_); refine goesL_ (some 13) rfl rfl Try.func21 (by kernel_rfl) rfl #[.agg #[.slice A0_0 l0_0.length c0_0]] rfl (by (try simp only [List.map_toArray, List.map_cons, List.map_nil]); first | done | rfl | (simp only [List.length_drop, List.length_take]; rfl)) ?_; (with_reducible refine (signalbenchref44_Check.calls k _ _ l0_0 t415 _ ?side1 ?side2 A6.out).mono ?_); (case side1 => repeat (first | exact (Kd.C_below HR0_0.out HB.out) | (with_reducible refine Kd.C_alloc ?_ _) | (with_reducible refine Kd.C_drewN ?_ _) | (with_reducible refine Kd.C_drew ?_))); (case side2 => exact HC0_0.out); rintro e w12 ⟨rfl, hb⟩; refine ⟨_, rfl, ?_⟩; have n0_ := Aside0.mk (blk_below (bg BK414.out) hb); have n1_ := Aside0.mk (below_step (bs HB.out) hb); clear BK414; clear HB; have BK414 := n0_; have HB := n1_; clear n0_ n1_; (try clear hb); (try clear hb2); (try clear hk); (try clear hi)))
    go_meet
    case rel => exact ⟨_, (decide (a2 ≥ (l1.length : Int))), (by first | rfl | (simp; done) | (simp [*]; done)), H', ⟨by first | omega | exact Nat.le_refl _⟩, ⟨bg BK414.out⟩, ⟨bs HB.out⟩⟩
  ·
   rw [if_neg c7] at H
   have c7b0 : (t415 == 0) = false := beq_eq_false_iff_ne.mpr c7
   have c7b1 : (t415 != 0) = true := bne_iff_ne.mpr c7
   (first | rw [c7b0] | (simp only [i64_w, i32_w]; rw [c7b0]) | skip)
   have H' := Aside0.mk H
   clear H
   have hcz13_0 : w5.cell? ⟨gb414, 0, none⟩ = some (.slice A0_0 l0_0.length c0_0) := (blk_cell BK414.out 0).trans rfl
   have hfz13_0 := blk_frozen BK414.out 0
   go_wp2_with (first | ((with_reducible refine gate_callee (f := 21) rfl ?_); refine goesL_ (some 13) rfl rfl Try.func21 (by kernel_rfl) rfl #[.agg #[.slice A0_0 l0_0.length c0_0]] rfl (by (try simp only [List.map_toArray, List.map_cons, List.map_nil]); first | done | rfl | (simp only [List.length_drop, List.length_take]; rfl)) ?_; (with_reducible refine (signalbenchref44_Check.calls k _ _ l0_0 t415 _ ?side1 ?side2 A6.out).mono ?_); (case side1 => repeat (first | exact (Kd.C_below HR0_0.out HB.out) | (with_reducible refine Kd.C_alloc ?_ _) | (with_reducible refine Kd.C_drewN ?_ _) | (with_reducible refine Kd.C_drew ?_))); (case side2 => exact HC0_0.out); rintro e w14 ⟨rfl, hb⟩; refine ⟨_, rfl, ?_⟩; have n0_ := Aside0.mk (blk_below (bg BK414.out) hb); have n1_ := Aside0.mk (below_step (bs HB.out) hb); clear BK414; clear HB; have BK414 := n0_; have HB := n1_; clear n0_ n1_; (try clear hb); (try clear hb2); (try clear hk); (try clear hi)))
   go_meet
   case rel => exact ⟨_, (true), (by first | rfl | (simp; done) | (simp [*]; done)), H', ⟨by first | omega | exact Nat.le_refl _⟩, ⟨bg BK414.out⟩, ⟨bs HB.out⟩⟩
 case rest =>
  clear HC4
  try clear c1
  try clear c2
  try clear p2
  try clear c3
  try clear c7
  try clear c7b0
  try clear c7b1
  try clear c8
  try clear c8b0
  try clear hcz11_0
  try clear hcz13_0
  try clear hcz9_0
  try clear hfz11_0
  try clear hfz13_0
  try clear hfz9_0
  obtain ⟨kq, x24_3, rfl, HA, HJ3, BK414, HB⟩ := hcut
  cases kq with
  | zero => exact absurd HA.out (by simp [signalbenchref47_Trace.j0])
  | succ kj3 =>
   have H := HA.out
   clear HA
   simp only [signalbenchref47_Trace.j0] at H
   by_cases c15 : x24_3 = true
   ·
    subst c15
    have H1 : (some (([] : List Int), false)) = some (r1, r2) := by rw [if_pos rfl] at H; exact H
    clear H
    have H := H1
    clear H1
    simp only [Option.some.injEq, Prod.mk.injEq] at H
    obtain ⟨rfl, rfl⟩ := H
    go_wp2
    go_ret2
    exact ⟨_, by first | rfl | (simp [errW_none, errW_some] <;> rfl) | (simp [*, errW_none, errW_some] <;> rfl), by first | exact Kd.R_nil _ _ _ _ _ | exact Kd.N_nil _ _ _ _ _ | exact Kd.V_nil _ _ _ _ _ | exact Kd.Q_nil _ _ _ _ _ | exact Kd.S_nil _ _ _ _ _, bs HB.out⟩
   ·
    replace c15 := Bool.eq_false_iff.mpr c15
    subst c15
    have H1 : ((signalbenchref47_ends.f kj3 l0_0 l1).bind fun t416 => (if 0 ≤ (wrap64 ((l0_0.length : Int) - 1)) then (if (wrap64 ((l0_0.length : Int) - 1)) < (t416.length : Int) then (if 0 ≤ a2 then (if a2 < ((rd_L11 t416 (wrap64 ((l0_0.length : Int) - 1))).length : Int) then (if (rdOf false (rd_L11 t416 (wrap64 ((l0_0.length : Int) - 1))) a2 = true) then (if 0 ≤ (l0_0.length : Int) then (if ((l0_0.length : Int) : Int).toNat ≤ 35184372088832 then ((some (List.replicate ((l0_0.length : Int) : Int).toNat 0 : List Int)).bind fun y421 => (if (wrap64 ((l0_0.length : Int) - 1)) < (y421.length : Int) then (signalbenchref47_Trace.l0 kj3 l1 t416 (y421.set ((wrap64 ((l0_0.length : Int) - 1)) : Int).toNat a2) (wrap64 ((l0_0.length : Int) - 1)) l0_0) else (none))) else (none)) else (none)) else (some (([] : List Int), false))) else (none)) else (none)) else (none)) else (none))) = some (r1, r2) := by rw [if_neg (show ¬ (false = true) by decide)] at H; exact H
    clear H
    have H := H1
    clear H1
    replace H := Option.bind_eq_some_iff.mp H
    obtain ⟨t416, A160, H⟩ := H
    replace H : (if 0 ≤ (wrap64 ((l0_0.length : Int) - 1)) then (if (wrap64 ((l0_0.length : Int) - 1)) < (t416.length : Int) then (if 0 ≤ a2 then (if a2 < ((rd_L11 t416 (wrap64 ((l0_0.length : Int) - 1))).length : Int) then (if (rdOf false (rd_L11 t416 (wrap64 ((l0_0.length : Int) - 1))) a2 = true) then (if 0 ≤ (l0_0.length : Int) then (if ((l0_0.length : Int) : Int).toNat ≤ 35184372088832 then ((some (List.replicate ((l0_0.length : Int) : Int).toNat 0 : List Int)).bind fun y421 => (if (wrap64 ((l0_0.length : Int) - 1)) < (y421.length : Int) then (signalbenchref47_Trace.l0 kj3 l1 t416 (y421.set ((wrap64 ((l0_0.length : Int) - 1)) : Int).toNat a2) (wrap64 ((l0_0.length : Int) - 1)) l0_0) else (none))) else (none)) else (none)) else (some (([] : List Int), false))) else (none)) else (none)) else (none)) else (none)) = some (r1, r2) := H
    have A16 := Aside0.mk A160
    clear A160
    obtain ⟨ji17, hji17⟩ : ∃ j_ : Int, (wrap64 ((l0_0.length : Int) - 1)) = j_ := ⟨_, rfl⟩
    replace H : (if 0 ≤ (ji17) then (if (ji17) < (t416.length : Int) then (if 0 ≤ a2 then (if a2 < ((rd_L11 t416 (ji17)).length : Int) then (if (rdOf false (rd_L11 t416 (ji17)) a2 = true) then (if 0 ≤ (l0_0.length : Int) then (if ((l0_0.length : Int) : Int).toNat ≤ 35184372088832 then ((some (List.replicate ((l0_0.length : Int) : Int).toNat 0 : List Int)).bind fun y421 => (if (ji17) < (y421.length : Int) then (signalbenchref47_Trace.l0 kj3 l1 t416 (y421.set ((ji17) : Int).toNat a2) ji17 l0_0) else (none))) else (none)) else (none)) else (some (([] : List Int), false))) else (none)) else (none)) else (none)) else (none)) = some (r1, r2) := by first | (rw [hji17] at H; exact H) | (simp only [hji17] at H ⊢; exact H)
    (try rw [hji17] at A16)
    have hji17w : (IntKind.i64.wrap ((l0_0.length : Int) - 1)) = ji17 := (i64_w _).trans hji17
    by_cases c18 : 0 ≤ (ji17)
    ·
     rw [if_pos c18] at H
     have c18b0 : decide (0 ≤ (ji17)) = true := decide_eq_true c18
     clear c18
     by_cases c19 : (ji17) < (t416.length : Int)
     ·
      rw [if_pos c19] at H
      have c19b0 : decide ((ji17) < (t416.length : Int)) = true := decide_eq_true c19
      clear c19
      by_cases c20 : 0 ≤ a2
      ·
       rw [if_pos c20] at H
       have c20b0 : decide (0 ≤ a2) = true := decide_eq_true c20
       clear c20
       by_cases c21 : a2 < ((rd_L11 t416 (ji17)).length : Int)
       ·
        rw [if_pos c21] at H
        have c21b0 : decide (a2 < ((rd_L11 t416 (ji17)).length : Int)) = true := decide_eq_true c21
        clear c21
        obtain ⟨bq22, hbq22⟩ : ∃ b_ : Bool, b_ = (rdOf false (rd_L11 t416 (ji17)) a2) := ⟨_, rfl⟩
        replace H : (if (bq22 = true) then (if 0 ≤ (l0_0.length : Int) then (if ((l0_0.length : Int) : Int).toNat ≤ 35184372088832 then ((some (List.replicate ((l0_0.length : Int) : Int).toNat 0 : List Int)).bind fun y421 => (if (ji17) < (y421.length : Int) then (signalbenchref47_Trace.l0 kj3 l1 t416 (y421.set ((ji17) : Int).toNat a2) ji17 l0_0) else (none))) else (none)) else (none)) else (some (([] : List Int), false))) = some (r1, r2) := by rw [← hbq22] at H; exact H
        have Nbq22 := Aside0.mk hbq22
        clear hbq22
        by_cases c23 : (bq22 = true)
        ·
         subst c23
         have H1 : (if 0 ≤ (l0_0.length : Int) then (if ((l0_0.length : Int) : Int).toNat ≤ 35184372088832 then ((some (List.replicate ((l0_0.length : Int) : Int).toNat 0 : List Int)).bind fun y421 => (if (ji17) < (y421.length : Int) then (signalbenchref47_Trace.l0 kj3 l1 t416 (y421.set ((ji17) : Int).toNat a2) ji17 l0_0) else (none))) else (none)) else (none)) = some (r1, r2) := by rw [if_pos rfl] at H; exact H
         clear H
         have H := H1
         clear H1
         by_cases c24 : 0 ≤ (l0_0.length : Int)
         ·
          rw [if_pos c24] at H
          have c24b0 := eq_true c24
          have c24b1 : decide (0 ≤ (l0_0.length : Int)) = true := decide_eq_true c24
          clear c24
          by_cases c25 : ((l0_0.length : Int) : Int).toNat ≤ 35184372088832
          ·
           rw [if_pos c25] at H
           have c25b0 := eq_true c25
           have c25b1 : decide (((l0_0.length : Int) : Int).toNat ≤ 35184372088832) = true := decide_eq_true c25
           clear c25
           obtain ⟨y421, hy421⟩ : ∃ y_ : List Int, y_ = (List.replicate ((l0_0.length : Int) : Int).toNat 0) := ⟨_, rfl⟩
           replace H : (if (ji17) < (y421.length : Int) then (signalbenchref47_Trace.l0 kj3 l1 t416 (y421.set ((ji17) : Int).toNat a2) ji17 l0_0) else (none)) = some (r1, r2) := by first | (rw [hy421]; with_reducible exact H) | (have H2_ := (Option.bind_some _ _).symm.trans H; rw [hy421]; with_reducible exact H2_) | (have H2_ := (Option.bind_some _ _).symm.trans H; with_reducible exact H2_) | with_reducible exact H | (rw [hy421]; exact H) | exact H
           have Ny421 := Aside0.mk hy421
           clear hy421
           by_cases c26 : (ji17) < (y421.length : Int)
           ·
            rw [if_pos c26] at H
            have c26b0 : decide ((ji17) < (y421.length : Int)) = true := decide_eq_true c26
            clear c26
            obtain ⟨y424, hy424⟩ : ∃ y_ : List Int, y_ = (y421.set ((ji17) : Int).toNat a2) := ⟨_, rfl⟩
            replace H : (signalbenchref47_Trace.l0 kj3 l1 t416 y424 ji17 l0_0) = some (r1, r2) := by first | (rw [hy424]; with_reducible exact H) | (have H2_ := (Option.bind_some _ _).symm.trans H; rw [hy424]; with_reducible exact H2_) | (have H2_ := (Option.bind_some _ _).symm.trans H; with_reducible exact H2_) | with_reducible exact H | (rw [hy424]; exact H) | exact H
            have Ny424 := Aside0.mk hy424
            clear hy424
            have H' := Aside0.mk H
            clear H
            have hcz28_0 : wc.cell? ⟨gb414, 0, none⟩ = some (.slice A0_0 l0_0.length c0_0) := (blk_cell BK414.out 0).trans rfl
            have hfz28_0 := blk_frozen BK414.out 0
            go_wp2_with (first | ((with_reducible refine gate_callee (f := 62) rfl ?_); refine goesL_ (some 27) rfl rfl Try.func62 (by kernel_rfl) rfl #[.agg #[.slice A0_0 l0_0.length c0_0], .slice A1 l1.length c1] rfl (by (try simp only [List.map_toArray, List.map_cons, List.map_nil]); first | done | rfl | (simp only [List.length_drop, List.length_take]; rfl)) ?_; (with_reducible refine (signalbenchref47_ends.calls kj3 _ _ l0_0 _ _ l1 t416 _ ?side1 ?side2 ?side3 ?side4 A16.out).mono ?_); (case side1 => repeat (first | exact (Kd.C_below HR0_0.out HB.out) | (with_reducible refine Kd.C_alloc ?_ _) | (with_reducible refine Kd.C_drewN ?_ _) | (with_reducible refine Kd.C_drew ?_))); (case side2 => exact HC0_0.out); (case side3 => repeat (first | exact (Kd.C_below HR1.out HB.out) | (with_reducible refine Kd.C_alloc ?_ _) | (with_reducible refine Kd.C_drewN ?_ _) | (with_reducible refine Kd.C_drew ?_))); (case side4 => exact HC1.out); rintro e w29 ⟨v417, rfl, ho0, hb⟩; refine ⟨_, rfl, ?_⟩; have n0_ := Aside0.mk (Kd.S_lower ho0 (below_size (bs HB.out))); have n1_ := Aside0.mk (blk_below (bg BK414.out) hb); have n2_ := Aside0.mk (below_step (bs HB.out) hb); clear BK414; clear HB; have HO418 := n0_; have BK414 := n1_; have HB := n2_; clear n0_ n1_ n2_; (try clear hb); (try clear hb2); (try clear hk); (try clear hi); (try clear ho0); have hcz30_0 : w29.cell? ⟨gb414, 0, none⟩ = some (.slice A0_0 l0_0.length c0_0) := (blk_cell BK414.out 0).trans rfl; have hfz30_0 := blk_frozen BK414.out 0; obtain ⟨Ao31, co31, eo31⟩ := Kd.S_slice HO418.out; subst eo31; have p419 : 0 ≤ ((ji17) : Int) := of_decide_eq_true (by first | (with_reducible assumption) | assumption); have q419 : (ji17) < (t416.length : Int) := of_decide_eq_true (by first | (with_reducible assumption) | assumption); obtain ⟨ad419, A419_0, c419_0, e419, hx419_0, hl419_0, hi419_0⟩ := at_L11 (Kd.S_reads' HO418.out).2.2 (ji17) p419 q419; cases e419; obtain ⟨ce419, hce419, hMe419, hcc419⟩ := Kd.S_get HO418.out [] (ji17) p419 (by first | exact q419 | exact of_decide_eq_true (by first | (with_reducible assumption) | assumption) | (have e_ := (Kd.S_reads' HO418.out).1; omega)); obtain ⟨ve419_0, rfl, ge419_0⟩ := hMe419; have hv419_0 := hcc419 0 _ rfl; rw [Nat.add_zero, show ((Kd.slice 4 Kd.bool)).sz = 1 from rfl, Nat.mul_one] at hv419_0; replace hv419_0 := Option.some.inj (hv419_0.symm.trans hx419_0); rw [hv419_0] at ge419_0; have HL419_0 := Aside0.mk (show Kd.R Kd.bool 4 _ _ _ _ (rd_L11 t416 (ji17)) from ge419_0); clear hv419_0 ge419_0; clear hcc419 hce419; have HR419_0 := Aside0.mk hi419_0; have HC419_0 := Aside0.mk hl419_0; clear hi419_0 hl419_0; replace p419 := eq_true p419; replace q419 := eq_true q419; have p420 : 0 ≤ (a2 : Int) := of_decide_eq_true (by first | (with_reducible assumption) | assumption); have q420 : a2 < ((rd_L11 t416 (ji17)).length : Int) := of_decide_eq_true (by first | (with_reducible assumption) | assumption); obtain ⟨ad420, e420, hx420_0⟩ := Kd.at_bool (by repeat (first | (with_reducible exact HR419_0.out) | (with_reducible refine Kd.C_alloc ?_ _) | (with_reducible refine Kd.C_drewN ?_ _) | (with_reducible refine Kd.C_drew ?_) | exact HR419_0.out)) a2 p420 q420; (try rw [← Nbq22.out] at hx420_0); cases e420; replace p420 := eq_true p420; replace q420 := eq_true q420) | ((with_reducible refine gate_dst (N := 41) rfl ?_); (try (refine gate_guard (by rfl) ?_; dsimp only)); refine Kd.R_make (Kd.int .i64) _ 3 rfl (N := 41) rfl 52 _ _ rfl (l0_0.length : Int) rfl rfl Try.underlying52 (.int .i64 0) 8 info3 rfl (by decide) (by omega) 0 (ok := fun _ => True) (okp := fun _ => True) rfl (fun _ hk => hk) trivial (of_decide_eq_true (by first | (with_reducible assumption) | assumption)) (Nat.le_trans (Nat.mul_le_mul_right _ (of_decide_eq_true (by first | (with_reducible assumption) | assumption) : (l0_0.length : Int).toNat ≤ 35184372088832)) (by omega)) (Below.refl _ _) (Nat.le_refl _) ?_; intro v422 w32 ho33 hb hg_ hnew_; clear hg_ hnew_; (first | rw [← Ny421.out] at ho33 | (simp only [Int.reduceToNat] at ho33; rw [← Ny421.out] at ho33)); have n0_ := Aside0.mk (Kd.S_below (by (with_reducible repeat (first | apply Kd.S_alloc | apply Kd.S_drewN | apply Kd.S_drew)); exact HO418.out) hb); have n1_ := Aside0.mk (Kd.R_below (by (with_reducible repeat (first | apply Kd.R_alloc | apply Kd.R_drewN | apply Kd.R_drew)); exact HL419_0.out) hb); have n2_ := Aside0.mk (Kd.R_lower ho33 (below_size (bs HB.out))); have n3_ := Aside0.mk (blk_below (bg BK414.out) hb); have n4_ := Aside0.mk (Kd.C_below (by repeat (first | (with_reducible exact HR419_0.out) | (with_reducible refine Kd.C_alloc ?_ _) | (with_reducible refine Kd.C_drewN ?_ _) | (with_reducible refine Kd.C_drew ?_) | exact HR419_0.out)) hb); have n5_ := Aside0.mk (below_step (bs HB.out) hb); clear HO418; clear HL419_0; clear BK414; clear HR419_0; clear HB; have HO418 := n0_; have HL419_0 := n1_; have HO423 := n2_; have BK414 := n3_; have HR419_0 := n4_; have HB := n5_; clear n0_ n1_ n2_ n3_ n4_ n5_; clear hb ho33; have p27 : 0 ≤ ((ji17) : Int) := of_decide_eq_true (by first | (with_reducible assumption) | assumption); have q27 : ((ji17) : Int) < ((y421.length : Int) : Int) := of_decide_eq_true (by first | (with_reducible assumption) | assumption); obtain ⟨go27, co27, eo27, gb27, gl27, cl27, HG27⟩ := Kd.R_form HO423.out (by omega); (first | cases eo27 | (injection eo27 with ea_ en_ ec_; (first | subst ea_ | (injection ea_ with ea_; subst ea_)); subst ec_; clear en_)); have GB27 := Aside0.mk gb27; have GG27 := Aside0.mk HG27; clear gb27 gl27 HG27; obtain ⟨hx27_0, hf27_0⟩ := Kd.R_celln 0 HO423.out ((ji17) : Int) p27 q27; replace p27 := eq_true p27; replace q27 := eq_true q27; obtain ⟨hy34_, hz34_⟩ := Kd.R_celln 0 HO423.out ((ji17) : Int) (of_decide_eq_true (by first | (with_reducible assumption) | assumption)) (of_decide_eq_true (by first | (with_reducible assumption) | assumption)); have HP34 := Kd.R_putg HO423.out ((ji17) : Int) a2) | ((with_reducible refine gate_store (t := 3) (p := 46) rfl ?_); refine store_event (t := 3) (p := 46) (v := ?vo_w35) (w1 := (w32.setCell ⟨go27, ((ji17) : Int).toNat, none⟩ (.int .i64 a2))) ?hg ?ho ?hn ?hr ?_; (case ho => rfl); (case hg => rfl); (case hn => rfl); (case hr => first | (go_simp; done) | (go_simp; rfl)); intro w35 hw; have hg : w32.grownBy w35 (some go27) := (by rw [hw]; exact HP34.2); have hp_ : Kd.R (Kd.int .i64) 3 w35 w.heap.size (fun _ => True) (.slice (some ⟨go27, 0, none⟩) y421.length co27) y424 := (by rw [hw, Ny424.out]; exact HP34.1); clear HP34; have n0_ := Aside0.mk (blk_grown (g := gb414) (o := .cells #[.slice A0_0 l0_0.length c0_0] 31 (0, 0)) (bg BK414.out) hg (Kd.R_ne HO423.out BK414.out (by decide))); have n1_ := Aside0.mk (Kd.S_over' (v := (.slice (some ⟨go27, 0, none⟩) y421.length co27)) (by (with_reducible repeat (first | apply Kd.S_alloc | apply Kd.S_drewN | apply Kd.S_drew)); exact HO418.out) (Kd.R_typed HO423.out) (by decide) hg); have n2_ := Aside0.mk (Kd.R_over' (v := (.slice (some ⟨go27, 0, none⟩) y421.length co27)) (by (with_reducible repeat (first | apply Kd.R_alloc | apply Kd.R_drewN | apply Kd.R_drew)); exact HL419_0.out) (Kd.R_typed HO423.out) (by decide) hg); have n3_ := Aside0.mk (hp_); have n4_ := Aside0.mk ((by rw [hw]; exact below_set (HB.out) GB27.out : Below w.heap.size w w35)); clear BK414; clear HO418; clear HL419_0; clear HO423; clear HB; have BK414 := n0_; have HO418 := n1_; have HL419_0 := n2_; have HO423 := n3_; have HB := n4_; clear n0_ n1_ n2_ n3_ n4_; clear hg hw hp_))
            go_loopg [11] kj3 (fun kq v11 w' => ∃ (x10_2 : List Int) (x11_2 : Int), v11 = .int .i64 x11_2 ∧ Aside0 (signalbenchref47_Trace.l0 kq l1 t416 x10_2 x11_2 l0_0 = some (r1, r2)) ∧ Aside0 (kq ≤ kj3) ∧ Aside0 (Kd.S (Kd.slice 4 Kd.bool) 86 w' w.heap.size (fun _ => True) (.slice (some ad419) t416.length co31) t416) ∧ Aside0 (Kd.R (Kd.int .i64) 3 w' w.heap.size (fun _ => True) (.slice (some ⟨go27, 0, none⟩) y421.length co27) x10_2) ∧ Aside0 (w'.heap[gb414]? = some (.cells #[(.slice A0_0 l0_0.length c0_0)] 31 (0, 0))) ∧ Aside0 (Below w.heap.size w w'))
            case atStart => exact ⟨(y424), (ji17), (by first | rfl | (simp; done) | (simp only [← hji17] <;> (first | rfl | simp)) | (simp [*]; done)), H', ⟨Nat.le_refl _⟩, ⟨by (with_reducible repeat (first | apply Kd.S_alloc | apply Kd.S_drewN | apply Kd.S_drew)); exact HO418.out⟩, ⟨by (with_reducible repeat (first | apply Kd.R_alloc | apply Kd.R_drewN | apply Kd.R_drew)); exact HO423.out⟩, ⟨bg BK414.out⟩, ⟨bs HB.out⟩⟩
            case round =>
             clear H'
             try clear c1
             try clear c2
             try clear p2
             try clear q2
             try clear hx2
             try clear c3
             try clear c4
             try clear p4
             try clear q4
             try clear hx4
             try clear c6
             try clear p6
             try clear c7
             try clear c7b0
             try clear c7b1
             try clear c8
             try clear c8b0
             try clear c15
             try clear c18
             try clear c18b0
             try clear c19
             try clear c19b0
             try clear c20
             try clear c20b0
             try clear c21
             try clear c21b0
             try clear q22
             try clear c23
             try clear c24
             try clear c24b0
             try clear c24b1
             try clear c25
             try clear c25b0
             try clear c25b1
             try clear c26
             try clear c26b0
             try clear p27
             try clear q27
             try clear hx27
             try clear hf27
             try clear c35
             try clear hcz11_0
             try clear hcz13_0
             try clear hcz28_0
             try clear hcz30_0
             try clear hcz9_0
             try clear hfz11_0
             try clear hfz13_0
             try clear hfz28_0
             try clear hfz30_0
             try clear hfz9_0
             try clear hx27_0
             try clear hx419_0
             try clear hx420_0
             try clear p2
             try clear p27
             try clear p419
             try clear p420
             try clear q27
             try clear q419
             try clear q420
             obtain ⟨x10_2, x11_2, rfl, HA, HK2, HO_8, HO_10, BK414, HB⟩ := hrel
             have hl10_2 := (Kd.R_reads' HO_10.out).1
             rw [hl10_2] at HO_10
             (try simp only [hl10_2])
             (try simp only [hl10_2] at BK414)
             (try simp only [hl10_2] at HO_8)
             cases gk with
             | zero => exact absurd HA.out (by simp [signalbenchref47_Trace.l0])
             | succ k2 =>
              have H := HA.out
              clear HA
              simp only [signalbenchref47_Trace.l0] at H
              by_cases c36 : x11_2 > 0
              ·
               rw [if_pos c36] at H
               have c36b0 : decide (0 < x11_2) = true := decide_eq_true c36
               clear c36
               obtain ⟨ji37, hji37⟩ : ∃ j_ : Int, (wrap64 (x11_2 - 1)) = j_ := ⟨_, rfl⟩
               replace H : (if 0 ≤ (ji37) then (if (ji37) < (t416.length : Int) then (if 0 ≤ x11_2 then (if x11_2 < (x10_2.length : Int) then ((signalbenchref47_before.f k2 l0_0 l1 (rd_L11 t416 (ji37)) x11_2 (rd x10_2 x11_2)).bind fun t427 => (if (ji37) < (x10_2.length : Int) then (signalbenchref47_Trace.l0 k2 l1 t416 (x10_2.set ((ji37) : Int).toNat t427) ji37 l0_0) else (none))) else (none)) else (none)) else (none)) else (none)) = some (r1, r2) := by first | (rw [hji37] at H; exact H) | (simp only [hji37] at H ⊢; exact H)
               have hji37w : (IntKind.i64.wrap (x11_2 - 1)) = ji37 := (i64_w _).trans hji37
               by_cases c38 : 0 ≤ (ji37)
               ·
                rw [if_pos c38] at H
                have c38b0 : decide (0 ≤ (ji37)) = true := decide_eq_true c38
                clear c38
                by_cases c39 : (ji37) < (t416.length : Int)
                ·
                 rw [if_pos c39] at H
                 have c39b0 : decide ((ji37) < (t416.length : Int)) = true := decide_eq_true c39
                 clear c39
                 by_cases c40 : 0 ≤ x11_2
                 ·
                  rw [if_pos c40] at H
                  have c40b0 : decide (0 ≤ x11_2) = true := decide_eq_true c40
                  clear c40
                  by_cases c41 : x11_2 < (x10_2.length : Int)
                  ·
                   rw [if_pos c41] at H
                   have c41b0 : decide (x11_2 < (x10_2.length : Int)) = true := decide_eq_true c41
                   clear c41
                   replace H := Option.bind_eq_some_iff.mp H
                   obtain ⟨t427, A420, H⟩ := H
                   replace H : (if (ji37) < (x10_2.length : Int) then (signalbenchref47_Trace.l0 k2 l1 t416 (x10_2.set ((ji37) : Int).toNat t427) ji37 l0_0) else (none)) = some (r1, r2) := H
                   have A42 := Aside0.mk A420
                   clear A420
                   by_cases c43 : (ji37) < (x10_2.length : Int)
                   ·
                    rw [if_pos c43] at H
                    have c43b0 : decide ((ji37) < (x10_2.length : Int)) = true := decide_eq_true c43
                    clear c43
                    obtain ⟨y428, hy428⟩ : ∃ y_ : List Int, y_ = (x10_2.set ((ji37) : Int).toNat t427) := ⟨_, rfl⟩
                    replace H : (signalbenchref47_Trace.l0 k2 l1 t416 y428 ji37 l0_0) = some (r1, r2) := by first | (rw [hy428]; with_reducible exact H) | (have H2_ := (Option.bind_some _ _).symm.trans H; rw [hy428]; with_reducible exact H2_) | (have H2_ := (Option.bind_some _ _).symm.trans H; with_reducible exact H2_) | with_reducible exact H | (rw [hy428]; exact H) | exact H
                    have Ny428 := Aside0.mk hy428
                    clear hy428
                    have H' := Aside0.mk H
                    clear H
                    try go_wp2
                    have n0_ := Aside0.mk (Kd.S_drew HO_8.out)
                    have n1_ := Aside0.mk (Kd.R_drew HO_10.out)
                    have n2_ := Aside0.mk (blk_drew BK414.out)
                    have n3_ := Aside0.mk (below_drew1 HB.out)
                    clear HO_8
                    clear HO_10
                    clear BK414
                    clear HB
                    have HO_8 := n0_
                    have HO_10 := n1_
                    have BK414 := n2_
                    have HB := n3_
                    clear n0_ n1_ n2_ n3_
                    have p425 : 0 ≤ ((ji37) : Int) := of_decide_eq_true (by first | (with_reducible assumption) | assumption)
                    have q425 : (ji37) < (t416.length : Int) := of_decide_eq_true (by first | (with_reducible assumption) | assumption)
                    obtain ⟨ad425, A425_0, c425_0, e425, hx425_0, hl425_0, hi425_0⟩ := at_L11 (Kd.S_reads' HO_8.out).2.2 (ji37) p425 q425
                    obtain rfl : ad419 = ad425 := (by injection e425)
                    obtain ⟨ce425, hce425, hMe425, hcc425⟩ := Kd.S_get HO_8.out [] (ji37) p425 (by first | exact q425 | exact of_decide_eq_true (by first | (with_reducible assumption) | assumption) | (have e_ := (Kd.S_reads' HO_8.out).1; omega))
                    obtain ⟨ve425_0, rfl, ge425_0⟩ := hMe425
                    have hv425_0 := hcc425 0 _ rfl
                    rw [Nat.add_zero, show ((Kd.slice 4 Kd.bool)).sz = 1 from rfl, Nat.mul_one] at hv425_0
                    replace hv425_0 := Option.some.inj (hv425_0.symm.trans hx425_0)
                    rw [hv425_0] at ge425_0
                    have HL425_0 := Aside0.mk (show Kd.R Kd.bool 4 _ _ _ _ (rd_L11 t416 (ji37)) from ge425_0)
                    clear hv425_0 ge425_0
                    clear hcc425 hce425
                    have HR425_0 := Aside0.mk hi425_0
                    have HC425_0 := Aside0.mk hl425_0
                    clear hi425_0 hl425_0
                    replace p425 := eq_true p425
                    replace q425 := eq_true q425
                    have p426 : 0 ≤ (x11_2 : Int) := of_decide_eq_true (by first | (with_reducible assumption) | assumption)
                    have q426 : x11_2 < (x10_2.length : Int) := of_decide_eq_true (by first | (with_reducible assumption) | assumption)
                    obtain ⟨ad426, e426, hx426_0⟩ := Kd.at_int (Kd.R_reads' HO_10.out).2.2 x11_2 p426 q426
                    obtain rfl : (⟨go27, 0, none⟩ : Addr) = ad426 := (by injection e426)
                    (first | simp only [add_plain] at hx426_0 | simp only [add_at] at hx426_0 | simp only [Addr.add, Nat.zero_add] at hx426_0 | skip)
                    replace p426 := eq_true p426
                    replace q426 := eq_true q426
                    refine start_ (n := 18) (S := fun w' => w'.cell? ⟨gb414, 0, none⟩ = some (.slice A0_0 l0_0.length c0_0) ∧ w'.cell? (ad419.add ((ji37)).toNat) = some (.slice A425_0 (rd_L11 t416 (ji37)).length c425_0) ∧ w'.cell? ⟨go27, (x11_2).toNat, none⟩ = some (.int .i64 (rd x10_2 x11_2))) (ds := [17]) (bsq 0 18) (by kernel_rfl) rfl rfl ⟨(blk_cell BK414.out 0).trans rfl, hx425_0, hx426_0⟩ (fun hHeld => ?_); refine with_tabW signalbenchref47_Trace.tab12 signalbenchref47_Trace.bits12 (fun HT_ HW_ => ?_)
                    generalize wr.drew = w45 at HO_8 HO_10 BK414 HB HL425_0 HR425_0 hx425_0 hx426_0 hHeld ⊢
                    refine pu 0 53 (bsq 1 17) ?_
                    refine pu 1 54 (bsq 2 16) ?_
                    refine pu 2 55 (bsq 3 15) ?_
                    refine pu 4 57 (bls [3, 1, 1, 13]) ?_
                    refine pu 5 58 (bls [3, 1, 2, 12]) ?_
                    refine pu 6 59 (bls [3, 1, 3, 11]) ?_
                    refine pu 7 60 (bls [3, 1, 4, 10]) ?_
                    refine pu 8 61 (bls [3, 1, 5, 9]) ?_
                    refine pu 10 63 (bls [3, 1, 5, 1, 1, 7]) ?_
                    refine pu 11 64 (bls [3, 1, 5, 1, 2, 6]) ?_
                    refine pu 12 65 (bls [3, 1, 5, 1, 3, 5]) ?_
                    refine pu 13 66 (bls [3, 1, 5, 1, 4, 4]) ?_
                    refine tk 3 56 (bls [9, 1, 4, 4]) hHeld ?_ (he := by rintro w' ⟨s0, s1, s2⟩; go_simp; with_reducible rfl)
                    refine tk 9 62 (bsq 14 4) hHeld ?_ (he := by rintro w' ⟨s0, s1, s2⟩; go_simp; with_reducible rfl)
                    refine tk 14 67 (bsq 15 3) hHeld ?_ (he := by rintro w' ⟨s0, s1, s2⟩; go_simp; with_reducible rfl)
                    refine one_ (i := 15) (N := some 68) (bsq 16 2) rfl rfl (one_of HT_.out (by kernel_rfl)) (by decide) (fun K hK => ?_)
                    refine goes_ Try.func65 (by kernel_rfl) rfl #[.agg #[.slice A0_0 l0_0.length c0_0], .slice A1 l1.length c1, .slice A425_0 (rd_L11 t416 (ji37)).length c425_0, .int .i64 x11_2, .int .i64 (rd x10_2 x11_2)] (by rfl) rfl rfl (by (try simp only [List.map_toArray, List.map_cons, List.map_nil]); first | done | (simp only [hji37]; rfl) | rfl | (simp only [List.length_drop, List.length_take]; rfl)) ?_
                    with_reducible refine (signalbenchref47_before.calls k2 _ _ l0_0 _ _ l1 _ _ (rd_L11 t416 (ji37)) x11_2 (rd x10_2 x11_2) t427 _ ?side1 ?side2 ?side3 ?side4 ?side5 ?side6 A42.out).mono ?_
                    (case side1 => repeat (first | exact (Kd.C_below HR0_0.out HB.out) | (with_reducible refine Kd.C_alloc ?_ _) | (with_reducible refine Kd.C_drewN ?_ _) | (with_reducible refine Kd.C_drew ?_)))
                    (case side2 => exact HC0_0.out)
                    (case side3 => repeat (first | exact (Kd.C_below HR1.out HB.out) | (with_reducible refine Kd.C_alloc ?_ _) | (with_reducible refine Kd.C_drewN ?_ _) | (with_reducible refine Kd.C_drew ?_)))
                    (case side4 => exact HC1.out)
                    (case side5 => repeat (first | exact (by repeat (first | (with_reducible exact HR425_0.out) | (with_reducible refine Kd.C_alloc ?_ _) | (with_reducible refine Kd.C_drewN ?_ _) | (with_reducible refine Kd.C_drew ?_) | exact HR425_0.out)) | (with_reducible refine Kd.C_alloc ?_ _) | (with_reducible refine Kd.C_drewN ?_ _) | (with_reducible refine Kd.C_drew ?_)))
                    (case side6 => exact HC425_0.out)
                    rintro e w46 ⟨rfl, hb⟩
                    have HS1_ := (hb.cell (World.block_lt_of_cell? _ _ (hHeld.2.1))).trans (hHeld.2.1)
                    have HS2_ := (hb.cell (World.block_lt_of_cell? _ _ (hHeld.2.2))).trans (hHeld.2.2)
                    refine ⟨_, rfl, ?_⟩
                    have n0_ := Aside0.mk (Kd.S_below (by (with_reducible repeat (first | apply Kd.S_alloc | apply Kd.S_drewN | apply Kd.S_drew)); exact HO_8.out) hb)
                    have n1_ := Aside0.mk (Kd.R_below (rq HO_10.out) hb)
                    have n2_ := Aside0.mk (Kd.R_below (by (with_reducible repeat (first | apply Kd.R_alloc | apply Kd.R_drewN | apply Kd.R_drew)); exact HL425_0.out) hb)
                    have n3_ := Aside0.mk (blk_below (bg BK414.out) hb)
                    have n4_ := Aside0.mk (Kd.C_below (by repeat (first | (with_reducible exact HR425_0.out) | (with_reducible refine Kd.C_alloc ?_ _) | (with_reducible refine Kd.C_drewN ?_ _) | (with_reducible refine Kd.C_drew ?_) | exact HR425_0.out)) hb)
                    have n5_ := Aside0.mk (below_step (bs HB.out) hb)
                    clear HO_8
                    clear HO_10
                    clear HL425_0
                    clear BK414
                    clear HR425_0
                    clear HB
                    have HO_8 := n0_
                    have HO_10 := n1_
                    have HL425_0 := n2_
                    have BK414 := n3_
                    have HR425_0 := n4_
                    have HB := n5_
                    clear n0_ n1_ n2_ n3_ n4_ n5_
                    (try clear hb)
                    (try clear hb2)
                    (try clear hk)
                    (try clear hi)
                    have p44 : 0 ≤ ((ji37) : Int) := of_decide_eq_true (by first | (with_reducible assumption) | assumption)
                    have q44 : ((ji37) : Int) < ((x10_2.length : Int) : Int) := of_decide_eq_true (by first | (with_reducible assumption) | assumption)
                    obtain ⟨hx44_0, hf44_0⟩ := Kd.R_celln 0 HO_10.out ((ji37) : Int) p44 q44
                    replace p44 := eq_true p44
                    replace q44 := eq_true q44
                    have HP47 := Kd.R_putn HO_10.out ((ji37) : Int) t427
                    rw [← Ny428.out] at HP47
                    have HQ47 := Aside0.mk HP47
                    clear HP47
                    refine hK.out _ _ ⟨(blk_cell BK414.out 0).trans rfl, HS1_, HS2_⟩ (fun hHeld => ?_)
                    clear hK K
                    refine norm_ (a' := ?_) ?_ ?_
                    rotate_left
                    ·
                     show Act.put _ (some 68) _ = _
                     simp only [Act.put, List.setIfInBounds_toArray, List.set_cons_zero, List.set_cons_succ, i64_w, i32_w]
                     rfl
                    refine pu 16 69 (bsq 17 1) ?_
                    refine last_ (i := 17) (N := none) (bsq 18 0) rfl rfl (one_of HT_.out (by kernel_rfl)) (by decide) (fun K hK => ?_)
                    refine skip_ (w1 := ?_) (by rfl) rfl ?_ ?_
                    rotate_left
                    ·
                     go_simp
                     rfl
                    refine hK.out _ _ ?_
                    clear hK K
                    refine done_ (done_of HT_.out (by kernel_rfl)) ?_
                    try go_wp2
                    (try simp only [← hl10_2])
                    obtain ⟨cl27, GG27⟩ : ∃ c_, Aside0 (w46.heap[go27]? = some (.cells c_ 3 (0, 0))) := by (obtain ⟨_, _, hh⟩ := Kd.R_own HO_10.out; rcases hh with ⟨h0, _⟩ | ⟨g, cap, cur, e, _, hb, _⟩; (cases h0); (cases e; exact ⟨_, ⟨hb⟩⟩))
                    go_roundg k2
                    case measure => have := HJ3.out; have := HK2.out; omega
                    case rel => exact ⟨(y428), (ji37), (by first | rfl | (simp; done) | (simp only [← hji37] <;> (first | rfl | simp)) | (simp [*]; done)), H', ⟨by have := HJ3.out; have := HK2.out; omega⟩, ⟨by (try simp only [hl10_2]); (with_reducible repeat (first | apply Kd.S_alloc | apply Kd.S_drewN | apply Kd.S_drew)); exact Kd.S_mono (Kd.S_far (p := ⟨go27, ((ji37) : Int).toNat, none⟩) (Kd.S_types HO_8.out GG27.out (by decide)) (fun _ hk => hk.2) (.int .i64 t427)) (fun _ hk => trivial)⟩, ⟨by (try simp only [hl10_2]); (with_reducible repeat (first | apply Kd.R_alloc | apply Kd.R_drewN | apply Kd.R_drew)); exact HQ47.out⟩, ⟨by (try simp only [hl10_2]); (with_reducible repeat (first | refine blk_drewN ?_ _ | refine blk_drew ?_ | refine blk_alloc ?_ _)); refine blk_far ?_ (by have h_ := Kd.R_ne HO_10.out BK414.out (by decide); intro e_; exact h_ (by rw [e_]; rfl)) _; exact bg BK414.out⟩, ⟨by repeat (first | (with_reducible first | exact HB.out | apply below_alloc | apply pw_below_drewN | apply below_drew1 | refine below_set ?_ GB27.out | refine below_set ?_ GE414.out) | exact HB.out)⟩⟩
                   ·
                    rw [if_neg c43] at H
                    exact absurd H (by simp)
                  ·
                   rw [if_neg c41] at H
                   exact absurd H (by simp)
                 ·
                  rw [if_neg c40] at H
                  exact absurd H (by simp)
                ·
                 rw [if_neg c39] at H
                 exact absurd H (by simp)
               ·
                rw [if_neg c38] at H
                exact absurd H (by simp)
              ·
               rw [if_neg c36] at H
               have c36b0 : decide (0 < x11_2) = false := decide_eq_false c36
               clear c36
               simp only [Option.some.injEq, Prod.mk.injEq] at H
               obtain ⟨rfl, rfl⟩ := H
               go_wp2
               go_ret2
               exact ⟨_, by first | rfl | (simp [errW_none, errW_some] <;> rfl) | (simp only [← hji17]; first | rfl | (simp [errW_none, errW_some] <;> rfl)) | (simp [*, errW_none, errW_some] <;> rfl), by (with_reducible repeat (first | apply Kd.R_alloc | apply Kd.R_drewN | apply Kd.R_drew)); exact HO_10.out, bs HB.out⟩
           ·
            rw [if_neg c26] at H
            exact absurd H (by simp)
          ·
           rw [if_neg c25] at H
           exact absurd H (by simp)
         ·
          rw [if_neg c24] at H
          exact absurd H (by simp)
        ·
         replace c23 := Bool.eq_false_iff.mpr c23
         subst c23
         have H1 : (some (([] : List Int), false)) = some (r1, r2) := by rw [if_neg (show ¬ (false = true) by decide)] at H; exact H
         clear H
         have H := H1
         clear H1
         simp only [Option.some.injEq, Prod.mk.injEq] at H
         obtain ⟨rfl, rfl⟩ := H
         have hcz48_0 : wc.cell? ⟨gb414, 0, none⟩ = some (.slice A0_0 l0_0.length c0_0) := (blk_cell BK414.out 0).trans rfl
         have hfz48_0 := blk_frozen BK414.out 0
         go_wp2_with (first | ((with_reducible refine gate_callee (f := 62) rfl ?_); refine goesL_ (some 27) rfl rfl Try.func62 (by kernel_rfl) rfl #[.agg #[.slice A0_0 l0_0.length c0_0], .slice A1 l1.length c1] rfl (by (try simp only [List.map_toArray, List.map_cons, List.map_nil]); first | done | rfl | (simp only [List.length_drop, List.length_take]; rfl)) ?_; (with_reducible refine (signalbenchref47_ends.calls kj3 _ _ l0_0 _ _ l1 t416 _ ?side1 ?side2 ?side3 ?side4 A16.out).mono ?_); (case side1 => repeat (first | exact (Kd.C_below HR0_0.out HB.out) | (with_reducible refine Kd.C_alloc ?_ _) | (with_reducible refine Kd.C_drewN ?_ _) | (with_reducible refine Kd.C_drew ?_))); (case side2 => exact HC0_0.out); (case side3 => repeat (first | exact (Kd.C_below HR1.out HB.out) | (with_reducible refine Kd.C_alloc ?_ _) | (with_reducible refine Kd.C_drewN ?_ _) | (with_reducible refine Kd.C_drew ?_))); (case side4 => exact HC1.out); rintro e w49 ⟨v417, rfl, ho0, hb⟩; refine ⟨_, rfl, ?_⟩; have n0_ := Aside0.mk (Kd.S_lower ho0 (below_size (bs HB.out))); have n1_ := Aside0.mk (blk_below (bg BK414.out) hb); have n2_ := Aside0.mk (below_step (bs HB.out) hb); clear BK414; clear HB; have HO418 := n0_; have BK414 := n1_; have HB := n2_; clear n0_ n1_ n2_; (try clear hb); (try clear hb2); (try clear hk); (try clear hi); (try clear ho0); have hcz50_0 : w49.cell? ⟨gb414, 0, none⟩ = some (.slice A0_0 l0_0.length c0_0) := (blk_cell BK414.out 0).trans rfl; have hfz50_0 := blk_frozen BK414.out 0; obtain ⟨Ao51, co51, eo51⟩ := Kd.S_slice HO418.out; subst eo51; have p419 : 0 ≤ ((ji17) : Int) := of_decide_eq_true (by first | (with_reducible assumption) | assumption); have q419 : (ji17) < (t416.length : Int) := of_decide_eq_true (by first | (with_reducible assumption) | assumption); obtain ⟨ad419, A419_0, c419_0, e419, hx419_0, hl419_0, hi419_0⟩ := at_L11 (Kd.S_reads' HO418.out).2.2 (ji17) p419 q419; cases e419; obtain ⟨ce419, hce419, hMe419, hcc419⟩ := Kd.S_get HO418.out [] (ji17) p419 (by first | exact q419 | exact of_decide_eq_true (by first | (with_reducible assumption) | assumption) | (have e_ := (Kd.S_reads' HO418.out).1; omega)); obtain ⟨ve419_0, rfl, ge419_0⟩ := hMe419; have hv419_0 := hcc419 0 _ rfl; rw [Nat.add_zero, show ((Kd.slice 4 Kd.bool)).sz = 1 from rfl, Nat.mul_one] at hv419_0; replace hv419_0 := Option.some.inj (hv419_0.symm.trans hx419_0); rw [hv419_0] at ge419_0; have HL419_0 := Aside0.mk (show Kd.R Kd.bool 4 _ _ _ _ (rd_L11 t416 (ji17)) from ge419_0); clear hv419_0 ge419_0; clear hcc419 hce419; have HR419_0 := Aside0.mk hi419_0; have HC419_0 := Aside0.mk hl419_0; clear hi419_0 hl419_0; replace p419 := eq_true p419; replace q419 := eq_true q419; have p420 : 0 ≤ (a2 : Int) := of_decide_eq_true (by first | (with_reducible assumption) | assumption); have q420 : a2 < ((rd_L11 t416 (ji17)).length : Int) := of_decide_eq_true (by first | (with_reducible assumption) | assumption); obtain ⟨ad420, e420, hx420_0⟩ := Kd.at_bool (by repeat (first | (with_reducible exact HR419_0.out) | (with_reducible refine Kd.C_alloc ?_ _) | (with_reducible refine Kd.C_drewN ?_ _) | (with_reducible refine Kd.C_drew ?_) | exact HR419_0.out)) a2 p420 q420; (try rw [← Nbq22.out] at hx420_0); cases e420; replace p420 := eq_true p420; replace q420 := eq_true q420))
         go_ret2
         exact ⟨_, by first | rfl | (simp [errW_none, errW_some] <;> rfl) | (simp only [← hji17]; first | rfl | (simp [errW_none, errW_some] <;> rfl)) | (simp [*, errW_none, errW_some] <;> rfl), by first | exact Kd.R_nil _ _ _ _ _ | exact Kd.N_nil _ _ _ _ _ | exact Kd.V_nil _ _ _ _ _ | exact Kd.Q_nil _ _ _ _ _ | exact Kd.S_nil _ _ _ _ _, bs HB.out⟩
       ·
        rw [if_neg c21] at H
        exact absurd H (by simp)
      ·
       rw [if_neg c20] at H
       exact absurd H (by simp)
     ·
      rw [if_neg c19] at H
      exact absurd H (by simp)
    ·
     rw [if_neg c18] at H
     exact absurd H (by simp)

end Go.Proofs.Ytgdjiphljadlcaa.K
