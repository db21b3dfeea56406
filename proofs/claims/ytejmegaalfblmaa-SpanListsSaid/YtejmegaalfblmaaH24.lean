-- Printed by wip/hprint.py (this project's own driver of the kit's print) out of the translation; Lean checks it.
import Derived.Test.YtejmegaalfblmaaH0
import Derived.Test.YtejmegaalfblmaaH22
import Derived.Test.YtejmegaalfblmaaH23
namespace Go.Proofs.Ytejmegaalfblmaa.H
open Go.RowKit Go.Proofs.YtejmegaalfblmaaW.PrintWords Go.Proofs.YtejmegaalfblmaaW.PrintLast Go.Proofs.YtejmegaalfblmaaW.PrintMore
attribute [local go_sem] max2_int min2_int max_two min_two max_three min_three max_four min_four   -- for this text's walks alone
set_option linter.unusedVariables false
set_option linter.unusedSimpArgs false

/-! ### signalbenchref06_cut: function 31 -/
mutual
def signalbenchref06_cut.l0 : Nat → List (S25) → Int → Bool → List (S25) → Int → Option ((List (S25)))
 | 0, _, _, _, _, _ => none
 | k + 1, x0, x2, x3, x9, x10 => if x10 < x2 then ((signalbenchref06_next.f k x0 x10).bind fun t273 => (if t273 < 0 then (signalbenchref06_cut.j1 k x0 x2 x3 x9 x10 t273 true) else (signalbenchref06_cut.j1 k x0 x2 x3 x9 x10 t273 (decide (t273 > x2))))) else (some x9)
def signalbenchref06_cut.j1 : Nat → List (S25) → Int → Bool → List (S25) → Int → Int → Bool → Option ((List (S25)))
 | 0, _, _, _, _, _, _, _ => none
 | k + 1, x0, x2, x3, x9, x10, x11, x27 => if x27 = true then (signalbenchref06_cut.j2 k x0 x2 x3 x9 x10 x2) else (signalbenchref06_cut.j2 k x0 x2 x3 x9 x10 x11)
def signalbenchref06_cut.j2 : Nat → List (S25) → Int → Bool → List (S25) → Int → Int → Option ((List (S25)))
 | 0, _, _, _, _, _, _ => none
 | k + 1, x0, x2, x3, x9, x10, x11 => (signalbenchref06_Find.f k x0 x10).bind fun t274 => (if ((decide (t274 ≥ 0)) == x3) = true then (if (x9.length : Int) > 0 then (if 0 ≤ (wrap64 ((x9.length : Int) - 1)) then (if (wrap64 ((x9.length : Int) - 1)) < (x9.length : Int) then (if ((rd_T25 x9 (wrap64 ((x9.length : Int) - 1))).f1) = x10 then (signalbenchref06_cut.l0 k x0 x2 x3 (x9.set ((wrap64 ((x9.length : Int) - 1)) : Int).toNat (⟨(rd_T25 x9 (wrap64 ((x9.length : Int) - 1))).f0, x11⟩ : S25)) x11) else (if x9.length < 8796093022208 then (signalbenchref06_cut.l0 k x0 x2 x3 (x9 ++ [(⟨x10, x11⟩ : S25)]) x11) else (none))) else (none)) else (none)) else (if x9.length < 8796093022208 then (signalbenchref06_cut.l0 k x0 x2 x3 (x9 ++ [(⟨x10, x11⟩ : S25)]) x11) else (none))) else (signalbenchref06_cut.l0 k x0 x2 x3 x9 x11))
end
def signalbenchref06_cut.f (k : Nat) (l0 : List (S25)) (a1 : Int) (a2 : Int) (a3 : Bool) : Option ((List (S25))) := signalbenchref06_cut.l0 k l0 a2 a3 (([] : List (S25))) a1
theorem signalbenchref06_cut.mono_l : ∀ k, (∀ y0 y1 y2 y3 y4, LeO (signalbenchref06_cut.l0 k y0 y1 y2 y3 y4) (signalbenchref06_cut.l0 (k + 1) y0 y1 y2 y3 y4)) ∧ (∀ y0 y1 y2 y3 y4 y5 y6, LeO (signalbenchref06_cut.j1 k y0 y1 y2 y3 y4 y5 y6) (signalbenchref06_cut.j1 (k + 1) y0 y1 y2 y3 y4 y5 y6)) ∧ (∀ y0 y1 y2 y3 y4 y5, LeO (signalbenchref06_cut.j2 k y0 y1 y2 y3 y4 y5) (signalbenchref06_cut.j2 (k + 1) y0 y1 y2 y3 y4 y5))
 | 0 => ⟨fun _ _ _ _ _ r h => by simp [signalbenchref06_cut.l0] at h, fun _ _ _ _ _ _ _ r h => by simp [signalbenchref06_cut.j1] at h, fun _ _ _ _ _ _ r h => by simp [signalbenchref06_cut.j2] at h⟩
 | k + 1 => by
  obtain ⟨ih0, ih1, ih2⟩ := signalbenchref06_cut.mono_l k
  refine ⟨?_, ?_, ?_⟩
  ·
   intro y0 y1 y2 y3 y4
   unfold signalbenchref06_cut.l0
   repeat' first
   | (with_reducible exact ih0 _ _ _ _ _)
   | (with_reducible exact ih1 _ _ _ _ _ _ _)
   | (with_reducible exact ih2 _ _ _ _ _ _)
   | (with_reducible exact signalbenchref06_Find.mono _ _ _)
   | (with_reducible exact signalbenchref06_next.mono _ _ _)
   | (with_reducible exact LeO.refl _)
   | (with_reducible exact LeO.none _)
   | (with_reducible refine LeO.ite ?_ ?_)
   | (with_reducible refine LeO.bind ?_ (fun _ => ?_))
   | exact ih0 _ _ _ _ _
   | exact ih1 _ _ _ _ _ _ _
   | exact ih2 _ _ _ _ _ _
   | exact signalbenchref06_Find.mono _ _ _
   | exact signalbenchref06_next.mono _ _ _
   | exact LeO.none _
   | refine LeO.ite ?_ ?_
   | refine LeO.bind ?_ (fun _ => ?_)
  ·
   intro y0 y1 y2 y3 y4 y5 y6
   unfold signalbenchref06_cut.j1
   repeat' first
   | (with_reducible exact ih0 _ _ _ _ _)
   | (with_reducible exact ih1 _ _ _ _ _ _ _)
   | (with_reducible exact ih2 _ _ _ _ _ _)
   | (with_reducible exact signalbenchref06_Find.mono _ _ _)
   | (with_reducible exact signalbenchref06_next.mono _ _ _)
   | (with_reducible exact LeO.refl _)
   | (with_reducible exact LeO.none _)
   | (with_reducible refine LeO.ite ?_ ?_)
   | (with_reducible refine LeO.bind ?_ (fun _ => ?_))
   | exact ih0 _ _ _ _ _
   | exact ih1 _ _ _ _ _ _ _
   | exact ih2 _ _ _ _ _ _
   | exact signalbenchref06_Find.mono _ _ _
   | exact signalbenchref06_next.mono _ _ _
   | exact LeO.none _
   | refine LeO.ite ?_ ?_
   | refine LeO.bind ?_ (fun _ => ?_)
  ·
   intro y0 y1 y2 y3 y4 y5
   unfold signalbenchref06_cut.j2
   repeat' first
   | (with_reducible exact ih0 _ _ _ _ _)
   | (with_reducible exact ih1 _ _ _ _ _ _ _)
   | (with_reducible exact ih2 _ _ _ _ _ _)
   | (with_reducible exact signalbenchref06_Find.mono _ _ _)
   | (with_reducible exact signalbenchref06_next.mono _ _ _)
   | (with_reducible exact LeO.refl _)
   | (with_reducible exact LeO.none _)
   | (with_reducible refine LeO.ite ?_ ?_)
   | (with_reducible refine LeO.bind ?_ (fun _ => ?_))
   | exact ih0 _ _ _ _ _
   | exact ih1 _ _ _ _ _ _ _
   | exact ih2 _ _ _ _ _ _
   | exact signalbenchref06_Find.mono _ _ _
   | exact signalbenchref06_next.mono _ _ _
   | exact LeO.none _
   | refine LeO.ite ?_ ?_
   | refine LeO.bind ?_ (fun _ => ?_)
theorem signalbenchref06_cut.mono : ∀ a0 a1 a2 a3 k, LeO (signalbenchref06_cut.f k a0 a1 a2 a3) (signalbenchref06_cut.f (k + 1) a0 a1 a2 a3) := by
 intro a0 a1 a2 a3 k
 obtain ⟨ih0, ih1, ih2⟩ := signalbenchref06_cut.mono_l k
 unfold signalbenchref06_cut.f
 repeat' first
   | (with_reducible exact ih0 _ _ _ _ _)
   | (with_reducible exact ih1 _ _ _ _ _ _ _)
   | (with_reducible exact ih2 _ _ _ _ _ _)
   | (with_reducible exact signalbenchref06_Find.mono _ _ _)
   | (with_reducible exact signalbenchref06_next.mono _ _ _)
   | (with_reducible exact LeO.refl _)
   | (with_reducible exact LeO.none _)
   | (with_reducible refine LeO.ite ?_ ?_)
   | (with_reducible refine LeO.bind ?_ (fun _ => ?_))
   | exact ih0 _ _ _ _ _
   | exact ih1 _ _ _ _ _ _ _
   | exact ih2 _ _ _ _ _ _
   | exact signalbenchref06_Find.mono _ _ _
   | exact signalbenchref06_next.mono _ _ _
   | exact LeO.none _
   | refine LeO.ite ?_ ?_
   | refine LeO.bind ?_ (fun _ => ?_)
set_option maxHeartbeats 8000000 in
set_option maxRecDepth 100000 in
theorem signalbenchref06_cut.calls (k : Nat) (A0 : Option Addr) (c0 : Nat) (l0 : List (S25)) (a1 : Int) (a2 : Int) (a3 : Bool) (r : List (S25)) (w : World) (hr0 : Kd.C k25 w A0 l0.length l0) (hc0 : l0.length ≤ c0) (h : signalbenchref06_cut.f k l0 a1 a2 a3 = some r) :
  Calls Try.prog 31 #[.slice A0 l0.length c0, .int .i64 a1, .int .i64 a2, .bool a3] w fun e w' => ∃ v0_ : Value, e = .returned (v0_) ∧ Kd.R k25 25 w' w.heap.size (fun _ => True) v0_ r ∧ Below w.heap.size w w' := by
 have hu25 := Try.underlying25
 have HR0 := Aside0.mk hr0
 have HC0 := Aside0.mk hc0
 clear hr0 hc0
 have HB := Aside0.mk (Below.refl w.heap.size w)
 have H : (signalbenchref06_cut.l0 k l0 a2 a3 (([] : List (S25))) a1) = some r := h
 clear h
 obtain ⟨y270, hy270⟩ : ∃ y_ : List (S25), y_ = (([] : List (S25))) := ⟨_, rfl⟩
 replace H : (signalbenchref06_cut.l0 k l0 a2 a3 y270 a1) = some r := by first | (rw [hy270]; with_reducible exact H) | (have H2_ := (Option.bind_some _ _).symm.trans H; rw [hy270]; with_reducible exact H2_) | (have H2_ := (Option.bind_some _ _).symm.trans H; with_reducible exact H2_) | with_reducible exact H | (rw [hy270]; exact H) | exact H
 have Ny270 := Aside0.mk hy270
 clear hy270
 have H' := Aside0.mk H
 clear H
 go_enter Try.func31, Try.ntmps31
 go_wp2_with (first | ((with_reducible refine gate_dst (N := 13) rfl ?_); refine Kd.R_lit k25 _ 25 ?hg (N := 13) ?hd (xs := ([] : List (S25))) (inner := []) (ok := fun _ => True) (okp := fun _ => True) ?hr ?hp (fun _ hk => hk) trivial (Below.refl _ _) (Nat.le_refl _) (by simp) ?_; (case hd => rfl); (case hg => rfl); (case hr => first | (go_simp; done) | (go_simp; rfl)); (case hp => exact (Reps.none _ _)); intro v271 w5 ho6 hb hg_ hnew_; clear hg_ hnew_; (first | rw [← Ny270.out] at ho6 | (simp only [Int.reduceToNat] at ho6; rw [← Ny270.out] at ho6)); have n0_ := Aside0.mk (Kd.R_lower ho6 (below_size (bs HB.out))); have n1_ := Aside0.mk (below_step (bs HB.out) hb); clear HB; have HO272 := n0_; have HB := n1_; clear n0_ n1_; clear hb ho6))
 go_loopg [9, 10] k (fun kq v9 v10 w' => ∃ (x9_1 : List (S25)) (x10_1 : Int), v10 = .int .i64 x10_1 ∧ Aside0 (signalbenchref06_cut.l0 kq l0 a2 a3 x9_1 x10_1 = some r) ∧ Aside0 (kq ≤ k) ∧ Aside0 (Kd.R k25 25 w' w.heap.size (fun _ => True) v9 x9_1) ∧ Aside0 (Below w.heap.size w w'))
 case atStart => exact ⟨(y270), (a1), (by first | rfl | (simp; done) | (simp [*]; done)), H', ⟨Nat.le_refl _⟩, ⟨by (with_reducible repeat (first | apply Kd.R_alloc | apply Kd.R_drewN | apply Kd.R_drew)); exact HO272.out⟩, ⟨bs HB.out⟩⟩
 case round =>
  clear H'
  try clear p2
  try clear c3
  obtain ⟨x9_1, x10_1, rfl, HA, HK1, HO_9, HB⟩ := hrel
  cases gk with
  | zero => exact absurd HA.out (by simp [signalbenchref06_cut.l0])
  | succ k1 =>
   have H := HA.out
   clear HA
   simp only [signalbenchref06_cut.l0] at H
   by_cases c7 : x10_1 < a2
   ·
    rw [if_pos c7] at H
    have c7b0 : decide (x10_1 < a2) = true := decide_eq_true c7
    clear c7
    replace H := Option.bind_eq_some_iff.mp H
    obtain ⟨t273, A80, H⟩ := H
    replace H : (if t273 < 0 then (signalbenchref06_cut.j1 k1 l0 a2 a3 x9_1 x10_1 t273 true) else (signalbenchref06_cut.j1 k1 l0 a2 a3 x9_1 x10_1 t273 (decide (t273 > a2)))) = some r := H
    have A8 := Aside0.mk A80
    clear A80
    have HC9 := Aside0.mk H
    clear H
    go_upto_region 5 with (first | ((with_reducible refine gate_callee (f := 38) rfl ?_); refine goesL_ (some 20) rfl rfl Try.func38 (by kernel_rfl) rfl #[.slice A0 l0.length c0, .int .i64 x10_1] rfl (by (try simp only [List.map_toArray, List.map_cons, List.map_nil]); first | done | rfl | (simp only [List.length_drop, List.length_take]; rfl)) ?_; (with_reducible refine (signalbenchref06_next.calls k1 _ _ l0 x10_1 t273 _ ?side1 ?side2 A8.out).mono ?_); (case side1 => repeat (first | exact (Kd.C_below HR0.out HB.out) | (with_reducible refine Kd.C_alloc ?_ _) | (with_reducible refine Kd.C_drewN ?_ _) | (with_reducible refine Kd.C_drew ?_))); (case side2 => exact HC0.out); rintro e w10 ⟨rfl, hb⟩; refine ⟨_, rfl, ?_⟩; have n0_ := Aside0.mk (Kd.R_below (rq HO_9.out) hb); have n1_ := Aside0.mk (below_step (bs HB.out) hb); clear HO_9; clear HB; have HO_9 := n0_; have HB := n1_; clear n0_ n1_; (try clear hb); (try clear hb2); (try clear hk); (try clear hi)))
    (try simp only [Act.put, List.setIfInBounds_toArray, List.set_cons_zero, List.set_cons_succ])
    go_cut [27] (fun v27 wc => ∃ (kq : Nat) (x27_8 : Bool), v27 = .bool x27_8 ∧ Aside0 (signalbenchref06_cut.j1 kq l0 a2 a3 x9_1 x10_1 t273 x27_8 = some r) ∧ Aside0 (kq ≤ k1) ∧ Aside0 (Kd.R k25 25 wc w.heap.size (fun _ => True) u9 x9_1) ∧ Aside0 (Below w.heap.size w wc))
    case first =>
     have H := HC9.out
     clear HC9
     by_cases c11 : t273 < 0
     ·
      rw [if_pos c11] at H
      have c11b0 : decide (t273 < 0) = true := decide_eq_true c11
      clear c11
      (first | rw [c11b0] | (simp only [i64_w, i32_w]; rw [c11b0]) | skip)
      have H' := Aside0.mk H
      clear H
      go_wp2
      go_meet
      case rel => exact ⟨_, (true), (by first | rfl | (simp; done) | (simp [*]; done)), H', ⟨by have := HK1.out; first | omega | exact Nat.le_refl _⟩, ⟨by (with_reducible repeat (first | apply Kd.R_alloc | apply Kd.R_drewN | apply Kd.R_drew)); exact HO_9.out⟩, ⟨bs HB.out⟩⟩
     ·
      rw [if_neg c11] at H
      have c11b0 : decide (t273 < 0) = false := decide_eq_false c11
      clear c11
      (first | rw [c11b0] | (simp only [i64_w, i32_w]; rw [c11b0]) | skip)
      have H' := Aside0.mk H
      clear H
      go_wp2
      go_meet
      case rel => exact ⟨_, (decide (t273 > a2)), (by first | rfl | (simp; done) | (simp [*]; done)), H', ⟨by have := HK1.out; first | omega | exact Nat.le_refl _⟩, ⟨by (with_reducible repeat (first | apply Kd.R_alloc | apply Kd.R_drewN | apply Kd.R_drew)); exact HO_9.out⟩, ⟨bs HB.out⟩⟩
    case rest =>
     clear HC9
     try clear c1
     try clear p2
     try clear c3
     try clear c7
     try clear c7b0
     try clear c11
     try clear c11b0
     try clear p2
     obtain ⟨kq, x27_8, rfl, HA, HJ8, HO_9, HB⟩ := hcut
     cases kq with
     | zero => exact absurd HA.out (by simp [signalbenchref06_cut.j1])
     | succ kj8 =>
      have H := HA.out
      clear HA
      simp only [signalbenchref06_cut.j1] at H
      have HC12 := Aside0.mk H
      clear H
      go_upto_if 27 with (fail)
      go_cut [11] (fun v11 wc => ∃ (kq : Nat) (x11_11 : Int), v11 = .int .i64 x11_11 ∧ Aside0 (signalbenchref06_cut.j2 kq l0 a2 a3 x9_1 x10_1 x11_11 = some r) ∧ Aside0 (kq ≤ kj8) ∧ Aside0 (Kd.R k25 25 wc w.heap.size (fun _ => True) u9 x9_1) ∧ Aside0 (Below w.heap.size w wc))
      case first =>
       have H := HC12.out
       clear HC12
       by_cases c13 : x27_8 = true
       ·
        subst c13
        have H1 : (signalbenchref06_cut.j2 kj8 l0 a2 a3 x9_1 x10_1 a2) = some r := by rw [if_pos rfl] at H; exact H
        clear H
        have H := H1
        clear H1
        have H' := Aside0.mk H
        clear H
        go_wp2
        go_meet
        case rel => exact ⟨_, (a2), (by first | rfl | (simp; done) | (simp [*]; done)), H', ⟨by have := HK1.out; have := HJ8.out; first | omega | exact Nat.le_refl _⟩, ⟨by (with_reducible repeat (first | apply Kd.R_alloc | apply Kd.R_drewN | apply Kd.R_drew)); exact HO_9.out⟩, ⟨bs HB.out⟩⟩
       ·
        replace c13 := Bool.eq_false_iff.mpr c13
        subst c13
        have H1 : (signalbenchref06_cut.j2 kj8 l0 a2 a3 x9_1 x10_1 t273) = some r := by rw [if_neg (show ¬ (false = true) by decide)] at H; exact H
        clear H
        have H := H1
        clear H1
        have H' := Aside0.mk H
        clear H
        go_wp2
        go_meet
        case rel => exact ⟨_, (t273), (by first | rfl | (simp; done) | (simp [*]; done)), H', ⟨by have := HK1.out; have := HJ8.out; first | omega | exact Nat.le_refl _⟩, ⟨by (with_reducible repeat (first | apply Kd.R_alloc | apply Kd.R_drewN | apply Kd.R_drew)); exact HO_9.out⟩, ⟨bs HB.out⟩⟩
      case rest =>
       clear HC12
       try clear c1
       try clear p2
       try clear c3
       try clear c7
       try clear c7b0
       try clear c11
       try clear c11b0
       try clear c13
       try clear p2
       obtain ⟨kq, x11_11, rfl, HA, HJ11, HO_9, HB⟩ := hcut
       cases kq with
       | zero => exact absurd HA.out (by simp [signalbenchref06_cut.j2])
       | succ kj11 =>
        have H := HA.out
        clear HA
        simp only [signalbenchref06_cut.j2] at H
        replace H := Option.bind_eq_some_iff.mp H
        obtain ⟨t274, A140, H⟩ := H
        replace H : (if ((decide (t274 ≥ 0)) == a3) = true then (if (x9_1.length : Int) > 0 then (if 0 ≤ (wrap64 ((x9_1.length : Int) - 1)) then (if (wrap64 ((x9_1.length : Int) - 1)) < (x9_1.length : Int) then (if ((rd_T25 x9_1 (wrap64 ((x9_1.length : Int) - 1))).f1) = x10_1 then (signalbenchref06_cut.l0 kj11 l0 a2 a3 (x9_1.set ((wrap64 ((x9_1.length : Int) - 1)) : Int).toNat (⟨(rd_T25 x9_1 (wrap64 ((x9_1.length : Int) - 1))).f0, x11_11⟩ : S25)) x11_11) else (if x9_1.length < 8796093022208 then (signalbenchref06_cut.l0 kj11 l0 a2 a3 (x9_1 ++ [(⟨x10_1, x11_11⟩ : S25)]) x11_11) else (none))) else (none)) else (none)) else (if x9_1.length < 8796093022208 then (signalbenchref06_cut.l0 kj11 l0 a2 a3 (x9_1 ++ [(⟨x10_1, x11_11⟩ : S25)]) x11_11) else (none))) else (signalbenchref06_cut.l0 kj11 l0 a2 a3 x9_1 x11_11)) = some r := H
        have A14 := Aside0.mk A140
        clear A140
        by_cases c15 : ((decide (t274 ≥ 0)) == a3) = true
        ·
         rw [if_pos c15] at H
         have c15b0 : ((decide (t274 ≥ 0)) == a3) = true := c15
         (try (have c15b1 : decide ((decide (t274 ≥ 0)) = a3) = true := by simpa using c15))
         (try (have c15b2 : ((decide (t274 ≥ 0)) == a3) = true := by simpa using c15))
         clear c15
         by_cases c16 : (x9_1.length : Int) > 0
         ·
          rw [if_pos c16] at H
          have c16b0 : decide (0 < (x9_1.length : Int)) = true := decide_eq_true c16
          have c16b1 : decide (0 < x9_1.length) = true := decide_eq_true (by omega)
          clear c16
          obtain ⟨ji17, hji17⟩ : ∃ j_ : Int, (wrap64 ((x9_1.length : Int) - 1)) = j_ := ⟨_, rfl⟩
          replace H : (if 0 ≤ (ji17) then (if (ji17) < (x9_1.length : Int) then (if ((rd_T25 x9_1 (ji17)).f1) = x10_1 then (signalbenchref06_cut.l0 kj11 l0 a2 a3 (x9_1.set ((ji17) : Int).toNat (⟨(rd_T25 x9_1 (ji17)).f0, x11_11⟩ : S25)) x11_11) else (if x9_1.length < 8796093022208 then (signalbenchref06_cut.l0 kj11 l0 a2 a3 (x9_1 ++ [(⟨x10_1, x11_11⟩ : S25)]) x11_11) else (none))) else (none)) else (none)) = some r := by first | (rw [hji17] at H; exact H) | (simp only [hji17] at H ⊢; exact H)
          (try rw [hji17] at A14)
          have hji17w : (IntKind.i64.wrap ((x9_1.length : Int) - 1)) = ji17 := (i64_w _).trans hji17
          by_cases c18 : 0 ≤ (ji17)
          ·
           rw [if_pos c18] at H
           have c18b0 : decide (0 ≤ (ji17)) = true := decide_eq_true c18
           clear c18
           by_cases c19 : (ji17) < (x9_1.length : Int)
           ·
            rw [if_pos c19] at H
            have c19b0 : decide ((ji17) < (x9_1.length : Int)) = true := decide_eq_true c19
            clear c19
            by_cases c20 : ((rd_T25 x9_1 (ji17)).f1) = x10_1
            ·
             rw [if_pos c20] at H
             have c20b0 : (((rd_T25 x9_1 (ji17)).f1) == x10_1) = true := beq_iff_eq.mpr c20
             have c20b1 : (((rd_T25 x9_1 (ji17)).f1) != x10_1) = false := bne_eq_false_iff_eq.mpr c20
             clear c20
             obtain ⟨y276, hy276⟩ : ∃ y_ : List (S25), y_ = (x9_1.set ((ji17) : Int).toNat (⟨(rd_T25 x9_1 (ji17)).f0, x11_11⟩ : S25)) := ⟨_, rfl⟩
             replace H : (signalbenchref06_cut.l0 kj11 l0 a2 a3 y276 x11_11) = some r := by first | (rw [hy276]; with_reducible exact H) | (have H2_ := (Option.bind_some _ _).symm.trans H; rw [hy276]; with_reducible exact H2_) | (have H2_ := (Option.bind_some _ _).symm.trans H; with_reducible exact H2_) | with_reducible exact H | (rw [hy276]; exact H) | exact H
             have Ny276 := Aside0.mk hy276
             clear hy276
             have H' := Aside0.mk H
             clear H
             go_wp2_with (first | ((with_reducible refine gate_callee (f := 25) rfl ?_); refine goesL_ (some 31) rfl rfl Try.func25 (by kernel_rfl) rfl #[.slice A0 l0.length c0, .int .i64 x10_1] rfl (by (try simp only [List.map_toArray, List.map_cons, List.map_nil]); first | done | rfl | (simp only [List.length_drop, List.length_take]; rfl)) ?_; (with_reducible refine (signalbenchref06_Find.calls kj11 _ _ l0 x10_1 t274 _ ?side1 ?side2 A14.out).mono ?_); (case side1 => repeat (first | exact (Kd.C_below HR0.out HB.out) | (with_reducible refine Kd.C_alloc ?_ _) | (with_reducible refine Kd.C_drewN ?_ _) | (with_reducible refine Kd.C_drew ?_))); (case side2 => exact HC0.out); rintro e w22 ⟨rfl, hb⟩; refine ⟨_, rfl, ?_⟩; have n0_ := Aside0.mk (Kd.R_below (rq HO_9.out) hb); have n1_ := Aside0.mk (below_step (bs HB.out) hb); clear HO_9; clear HB; have HO_9 := n0_; have HB := n1_; clear n0_ n1_; (try clear hb); (try clear hb2); (try clear hk); (try clear hi); obtain ⟨Ao23, co23, eo23⟩ := Kd.R_slice HO_9.out; subst eo23; have p275 : 0 ≤ ((ji17) : Int) := of_decide_eq_true (by first | (with_reducible assumption) | assumption); have q275 : (ji17) < (x9_1.length : Int) := of_decide_eq_true (by first | (with_reducible assumption) | assumption); obtain ⟨ad275, e275, hx275_0, hx275_1⟩ := at_T25 (Kd.R_reads' HO_9.out).2.2 (ji17) p275 q275; cases e275; replace p275 := eq_true p275; replace q275 := eq_true q275; have p21 : 0 ≤ ((ji17) : Int) := of_decide_eq_true (by first | (with_reducible assumption) | assumption); have q21 : ((ji17) : Int) < ((x9_1.length : Int) : Int) := of_decide_eq_true (by first | (with_reducible assumption) | assumption); obtain ⟨go21, co21, eo21, gb21, gl21, cl21, HG21⟩ := Kd.R_form HO_9.out (by omega); (first | cases eo21 | (injection eo21 with ea_ en_ ec_; (first | subst ea_ | (injection ea_ with ea_; subst ea_)); subst ec_; clear en_)); have GB21 := Aside0.mk gb21; have GG21 := Aside0.mk HG21; clear gb21 gl21 HG21; (first | simp only [add_plain] at hx275_0 | skip); (first | simp only [add_plain] at hx275_1 | skip); obtain ⟨ce21, hcl21, hM21, hcc21, hfr21⟩ := Kd.R_elem HO_9.out z25 ((ji17) : Int) p21 q21; obtain rfl := k25_openM hM21; have hx21_0 : w22.cell? ⟨go21, ((ji17) : Int).toNat * 2, none⟩ = some (.int .i64 ((rd_T25 x9_1 (ji17)).f0)) := hcc21 0 _ rfl; have hx21_1 : w22.cell? ⟨go21, ((ji17) : Int).toNat * 2 + 1, none⟩ = some (.int .i64 ((rd_T25 x9_1 (ji17)).f1)) := hcc21 1 _ rfl; have hf21_0 : w22.frozen? ⟨go21, ((ji17) : Int).toNat * 2, none⟩ = false := hfr21 0; have hf21_1 : w22.frozen? ⟨go21, ((ji17) : Int).toNat * 2 + 1, none⟩ = false := hfr21 1; clear hcl21 hcc21 hfr21; (try clear hM21); replace p21 := eq_true p21; replace q21 := eq_true q21; have HX24 := Aside0.mk (show Kd.R k25 25 w22 w.heap.size (fun _ => True) (.slice (some ⟨go21, 0, none⟩) x9_1.length co23) x9_1 from (rq HO_9.out)); obtain ⟨ce24, hcl24, hM24, hcc24, hfr24⟩ := Kd.R_elem HX24.out z25 ((ji17) : Int) (of_decide_eq_true (by first | (with_reducible assumption) | assumption)) (by have h_ : ((ji17) : Int) < ((x9_1.length : Int) : Int) := of_decide_eq_true (by first | (with_reducible assumption) | assumption); first | exact h_ | (have e_ := (Kd.R_reads' HO_9.out).1; omega) | simpa using h_); obtain rfl := k25_openM hM24; have HP24 := Kd.R_seg HX24.out ((ji17) : Int) (of_decide_eq_true (by first | (with_reducible assumption) | assumption)) (by have h_ : ((ji17) : Int) < ((x9_1.length : Int) : Int) := of_decide_eq_true (by first | (with_reducible assumption) | assumption); first | exact h_ | (have e_ := (Kd.R_reads' HO_9.out).1; omega) | simpa using h_) (seg := [.int .i64 x11_11]) (j := 1) hcl24 hcc24 (show 2 ≤ 2 from by decide) (x' := (⟨(rd_T25 x9_1 (ji17)).f0, x11_11⟩ : S25)) (k25_mkM _ _ _ (⟨(rd_T25 x9_1 (ji17)).f0, x11_11⟩ : S25) ) (fun _ hk => hk); have hx24_1 := hcc24 1 _ rfl; (try simp only [show (k25).sz = 2 from rfl, Nat.mul_one, Nat.add_zero] at hx24_1); have hf24_1 := hfr24 1; (try simp only [show (k25).sz = 2 from rfl, Nat.mul_one, Nat.add_zero] at hf24_1); clear hcl24 hcc24 hfr24; (try clear hM24)) | ((with_reducible refine gate_store (t := 3) (p := 54) rfl ?_); refine store_event (t := 3) (p := 54) (v := ?vo_w25) (w1 := (w22.setCell ⟨go21, ((ji17) : Int).toNat * 2 + 1, none⟩ (.int .i64 x11_11))) ?hg ?ho ?hn ?hr ?_; (case ho => rfl); (case hg => rfl); (case hn => rfl); (case hr => first | (go_simp; done) | (go_simp; rfl)); intro w25 hw; have hg : w22.grownBy w25 (some go21) := (by rw [hw]; exact HP24.2); have hp_ : Kd.R k25 25 w25 w.heap.size (fun _ => True) (.slice (some ⟨go21, 0, none⟩) x9_1.length co23) y276 := (by rw [hw, Ny276.out]; exact HP24.1); clear HP24; have n0_ := Aside0.mk (hp_); have n1_ := Aside0.mk ((by rw [hw]; exact below_set (HB.out) GB21.out : Below w.heap.size w w25)); clear HO_9; clear HB; have HO_9 := n0_; have HB := n1_; clear n0_ n1_; clear hg hw hp_))
             go_roundg kj11
             case measure => have := HK1.out; have := HJ8.out; have := HJ11.out; omega
             case rel => exact ⟨(y276), (x11_11), (by first | rfl | (simp; done) | (simp [*]; done)), H', ⟨by have := HK1.out; have := HJ8.out; have := HJ11.out; omega⟩, ⟨by (with_reducible repeat (first | apply Kd.R_alloc | apply Kd.R_drewN | apply Kd.R_drew)); exact HO_9.out⟩, ⟨bs HB.out⟩⟩
            ·
             rw [if_neg c20] at H
             have c20b0 : (((rd_T25 x9_1 (ji17)).f1) == x10_1) = false := beq_eq_false_iff_ne.mpr c20
             have c20b1 : (((rd_T25 x9_1 (ji17)).f1) != x10_1) = true := bne_iff_ne.mpr c20
             by_cases c26 : x9_1.length < 8796093022208
             ·
              rw [if_pos c26] at H
              have LMc26 := Aside0.mk c26
              clear c26
              obtain ⟨y277, hy277⟩ : ∃ y_ : List (S25), y_ = (x9_1 ++ [(⟨x10_1, x11_11⟩ : S25)]) := ⟨_, rfl⟩
              replace H : (signalbenchref06_cut.l0 kj11 l0 a2 a3 y277 x11_11) = some r := by first | (rw [hy277]; with_reducible exact H) | (have H2_ := (Option.bind_some _ _).symm.trans H; rw [hy277]; with_reducible exact H2_) | (have H2_ := (Option.bind_some _ _).symm.trans H; with_reducible exact H2_) | with_reducible exact H | (rw [hy277]; exact H) | exact H
              have Ny277 := Aside0.mk hy277
              clear hy277
              have H' := Aside0.mk H
              clear H
              go_wp2_with (first | ((with_reducible refine gate_callee (f := 25) rfl ?_); refine goesL_ (some 31) rfl rfl Try.func25 (by kernel_rfl) rfl #[.slice A0 l0.length c0, .int .i64 x10_1] rfl (by (try simp only [List.map_toArray, List.map_cons, List.map_nil]); first | done | rfl | (simp only [List.length_drop, List.length_take]; rfl)) ?_; (with_reducible refine (signalbenchref06_Find.calls kj11 _ _ l0 x10_1 t274 _ ?side1 ?side2 A14.out).mono ?_); (case side1 => repeat (first | exact (Kd.C_below HR0.out HB.out) | (with_reducible refine Kd.C_alloc ?_ _) | (with_reducible refine Kd.C_drewN ?_ _) | (with_reducible refine Kd.C_drew ?_))); (case side2 => exact HC0.out); rintro e w27 ⟨rfl, hb⟩; refine ⟨_, rfl, ?_⟩; have n0_ := Aside0.mk (Kd.R_below (rq HO_9.out) hb); have n1_ := Aside0.mk (below_step (bs HB.out) hb); clear HO_9; clear HB; have HO_9 := n0_; have HB := n1_; clear n0_ n1_; (try clear hb); (try clear hb2); (try clear hk); (try clear hi); obtain ⟨Ao28, co28, eo28⟩ := Kd.R_slice HO_9.out; subst eo28; have p275 : 0 ≤ ((ji17) : Int) := of_decide_eq_true (by first | (with_reducible assumption) | assumption); have q275 : (ji17) < (x9_1.length : Int) := of_decide_eq_true (by first | (with_reducible assumption) | assumption); obtain ⟨ad275, e275, hx275_0, hx275_1⟩ := at_T25 (Kd.R_reads' HO_9.out).2.2 (ji17) p275 q275; cases e275; replace p275 := eq_true p275; replace q275 := eq_true q275) | ((with_reducible refine gate_builtin (b := .append) (xs := #[.tmp 55, .tmp 59]) rfl ?_); at_builtin; refine Kd.R_append k25 (w0 := w) w.heap.size rfl (.tmp 55) (.tmp 59) 22 25 (.agg #[(.int .i64 0), (.int .i64 0)]) 16 rfl Try.underlying22 info25 rfl (by decide) (by omega) (.slice (some ad275) x9_1.length co28) x9_1 (⟨x10_1, x11_11⟩ : S25) [.int .i64 x10_1, .int .i64 x11_11] (fun _ => True) (fun _ => False) rfl rfl ?aP (fun _ hk => hk.elim) ?aF ?aO ?aB ?aS ?aL ?_; (case aP => exact k25_mkM _ _ _ (⟨x10_1, x11_11⟩ : S25)); (case aB => exact (bs HB.out)); (case aF => exact (fun _ _ => trivial)); (case aO => exact (rq HO_9.out)); (case aS => exact (below_size (bs HB.out))); (case aL => have := LMc26.out; omega); intro v278 w29 ho hb hg hat; rw [← Ny277.out] at ho; have n0_ := Aside0.mk (hb); have n1_ := Aside0.mk (ho); clear HB; clear HO_9; have HB := n0_; have HO279 := n1_; clear n0_ n1_; clear ho hb hg hat))
              go_roundg kj11
              case measure => have := HK1.out; have := HJ8.out; have := HJ11.out; omega
              case rel => exact ⟨(y277), (x11_11), (by first | rfl | (simp; done) | (simp [*]; done)), H', ⟨by have := HK1.out; have := HJ8.out; have := HJ11.out; omega⟩, ⟨by (with_reducible repeat (first | apply Kd.R_alloc | apply Kd.R_drewN | apply Kd.R_drew)); exact HO279.out⟩, ⟨bs HB.out⟩⟩
             ·
              rw [if_neg c26] at H
              exact absurd H (by simp)
           ·
            rw [if_neg c19] at H
            exact absurd H (by simp)
          ·
           rw [if_neg c18] at H
           exact absurd H (by simp)
         ·
          rw [if_neg c16] at H
          have c16b0 : decide (0 < (x9_1.length : Int)) = false := decide_eq_false c16
          have c16b1 : decide (0 < x9_1.length) = false := decide_eq_false (by omega)
          clear c16
          by_cases c30 : x9_1.length < 8796093022208
          ·
           rw [if_pos c30] at H
           have LMc30 := Aside0.mk c30
           clear c30
           obtain ⟨y280, hy280⟩ : ∃ y_ : List (S25), y_ = (x9_1 ++ [(⟨x10_1, x11_11⟩ : S25)]) := ⟨_, rfl⟩
           replace H : (signalbenchref06_cut.l0 kj11 l0 a2 a3 y280 x11_11) = some r := by first | (rw [hy280]; with_reducible exact H) | (have H2_ := (Option.bind_some _ _).symm.trans H; rw [hy280]; with_reducible exact H2_) | (have H2_ := (Option.bind_some _ _).symm.trans H; with_reducible exact H2_) | with_reducible exact H | (rw [hy280]; exact H) | exact H
           have Ny280 := Aside0.mk hy280
           clear hy280
           have H' := Aside0.mk H
           clear H
           go_wp2_with (first | ((with_reducible refine gate_callee (f := 25) rfl ?_); refine goesL_ (some 31) rfl rfl Try.func25 (by kernel_rfl) rfl #[.slice A0 l0.length c0, .int .i64 x10_1] rfl (by (try simp only [List.map_toArray, List.map_cons, List.map_nil]); first | done | rfl | (simp only [List.length_drop, List.length_take]; rfl)) ?_; (with_reducible refine (signalbenchref06_Find.calls kj11 _ _ l0 x10_1 t274 _ ?side1 ?side2 A14.out).mono ?_); (case side1 => repeat (first | exact (Kd.C_below HR0.out HB.out) | (with_reducible refine Kd.C_alloc ?_ _) | (with_reducible refine Kd.C_drewN ?_ _) | (with_reducible refine Kd.C_drew ?_))); (case side2 => exact HC0.out); rintro e w31 ⟨rfl, hb⟩; refine ⟨_, rfl, ?_⟩; have n0_ := Aside0.mk (Kd.R_below (rq HO_9.out) hb); have n1_ := Aside0.mk (below_step (bs HB.out) hb); clear HO_9; clear HB; have HO_9 := n0_; have HB := n1_; clear n0_ n1_; (try clear hb); (try clear hb2); (try clear hk); (try clear hi); obtain ⟨Ao32, co32, eo32⟩ := Kd.R_slice HO_9.out; subst eo32) | ((with_reducible refine gate_builtin (b := .append) (xs := #[.tmp 55, .tmp 59]) rfl ?_); at_builtin; refine Kd.R_append k25 (w0 := w) w.heap.size rfl (.tmp 55) (.tmp 59) 22 25 (.agg #[(.int .i64 0), (.int .i64 0)]) 16 rfl Try.underlying22 info25 rfl (by decide) (by omega) (.slice Ao32 x9_1.length co32) x9_1 (⟨x10_1, x11_11⟩ : S25) [.int .i64 x10_1, .int .i64 x11_11] (fun _ => True) (fun _ => False) rfl rfl ?aP (fun _ hk => hk.elim) ?aF ?aO ?aB ?aS ?aL ?_; (case aP => exact k25_mkM _ _ _ (⟨x10_1, x11_11⟩ : S25)); (case aB => exact (bs HB.out)); (case aF => exact (fun _ _ => trivial)); (case aO => exact (rq HO_9.out)); (case aS => exact (below_size (bs HB.out))); (case aL => have := LMc30.out; omega); intro v281 w33 ho hb hg hat; rw [← Ny280.out] at ho; have n0_ := Aside0.mk (hb); have n1_ := Aside0.mk (ho); clear HB; clear HO_9; have HB := n0_; have HO282 := n1_; clear n0_ n1_; clear ho hb hg hat))
           go_roundg kj11
           case measure => have := HK1.out; have := HJ8.out; have := HJ11.out; omega
           case rel => exact ⟨(y280), (x11_11), (by first | rfl | (simp; done) | (simp [*]; done)), H', ⟨by have := HK1.out; have := HJ8.out; have := HJ11.out; omega⟩, ⟨by (with_reducible repeat (first | apply Kd.R_alloc | apply Kd.R_drewN | apply Kd.R_drew)); exact HO282.out⟩, ⟨bs HB.out⟩⟩
          ·
           rw [if_neg c30] at H
           exact absurd H (by simp)
        ·
         rw [if_neg c15] at H
         have c15b0 : ((decide (t274 ≥ 0)) == a3) = false := by simpa using c15
         (try (have c15b1 : decide ((decide (t274 ≥ 0)) = a3) = false := by simpa using c15))
         (try (have c15b2 : ((decide (t274 ≥ 0)) == a3) = false := by simpa using c15))
         (try (have c15b3 : ¬ ((decide (t274 ≥ 0)) = a3) := by simpa using c15))
         clear c15
         have H' := Aside0.mk H
         clear H
         go_wp2_with (first | ((with_reducible refine gate_callee (f := 25) rfl ?_); refine goesL_ (some 31) rfl rfl Try.func25 (by kernel_rfl) rfl #[.slice A0 l0.length c0, .int .i64 x10_1] rfl (by (try simp only [List.map_toArray, List.map_cons, List.map_nil]); first | done | rfl | (simp only [List.length_drop, List.length_take]; rfl)) ?_; (with_reducible refine (signalbenchref06_Find.calls kj11 _ _ l0 x10_1 t274 _ ?side1 ?side2 A14.out).mono ?_); (case side1 => repeat (first | exact (Kd.C_below HR0.out HB.out) | (with_reducible refine Kd.C_alloc ?_ _) | (with_reducible refine Kd.C_drewN ?_ _) | (with_reducible refine Kd.C_drew ?_))); (case side2 => exact HC0.out); rintro e w34 ⟨rfl, hb⟩; refine ⟨_, rfl, ?_⟩; have n0_ := Aside0.mk (Kd.R_below (rq HO_9.out) hb); have n1_ := Aside0.mk (below_step (bs HB.out) hb); clear HO_9; clear HB; have HO_9 := n0_; have HB := n1_; clear n0_ n1_; (try clear hb); (try clear hb2); (try clear hk); (try clear hi)))
         go_roundg kj11
         case measure => have := HK1.out; have := HJ8.out; have := HJ11.out; omega
         case rel => exact ⟨(x9_1), (x11_11), (by first | rfl | (simp; done) | (simp [*]; done)), H', ⟨by have := HK1.out; have := HJ8.out; have := HJ11.out; omega⟩, ⟨by (with_reducible repeat (first | apply Kd.R_alloc | apply Kd.R_drewN | apply Kd.R_drew)); exact HO_9.out⟩, ⟨bs HB.out⟩⟩
   ·
    rw [if_neg c7] at H
    have c7b0 : decide (x10_1 < a2) = false := decide_eq_false c7
    clear c7
    obtain rfl := Option.some.inj H
    go_wp2
    go_ret
    exact ⟨_, by first | rfl | (simp [errW_none, errW_some] <;> rfl) | (simp [*, errW_none, errW_some] <;> rfl), by (with_reducible repeat (first | apply Kd.R_alloc | apply Kd.R_drewN | apply Kd.R_drew)); exact HO_9.out, bs HB.out⟩

end Go.Proofs.Ytejmegaalfblmaa.H
