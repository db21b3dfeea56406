-- Printed by wip/hprint.py (this project's own driver of the kit's print) out of the translation; Lean checks it.
import Derived.Test.YtejmegaalfblmaaH0
import Derived.Test.YtejmegaalfblmaaH12
namespace Go.Proofs.Ytejmegaalfblmaa.H
open Go.RowKit Go.Proofs.YtejmegaalfblmaaW.PrintWords Go.Proofs.YtejmegaalfblmaaW.PrintLast Go.Proofs.YtejmegaalfblmaaW.PrintMore
attribute [local go_sem] max2_int min2_int max_two min_two max_three min_three max_four min_four   -- for this text's walks alone
set_option linter.unusedVariables false
set_option linter.unusedSimpArgs false

/-! ### signalbenchref06_next: function 38 -/
mutual
def signalbenchref06_next.l0 : Nat → List (S25) → Int → Int → Int → Option (Int)
 | 0, _, _, _, _ => none
 | k + 1, x0, x1, x5, x6 => if x6 < (x0.length : Int) then (if 0 ≤ x6 then ((signalbenchref06_Valid.f ((rd_T25 x0 x6).f0) ((rd_T25 x0 x6).f1)).bind fun t254 => (if t254 = true then (if ((rd_T25 x0 x6).f0) > x1 then (if x5 < 0 then (signalbenchref06_next.j1 k x0 x1 x5 x6 true) else (signalbenchref06_next.j1 k x0 x1 x5 x6 (decide (((rd_T25 x0 x6).f0) < x5)))) else (signalbenchref06_next.j1 k x0 x1 x5 x6 false)) else (signalbenchref06_next.j1 k x0 x1 x5 x6 false))) else (none)) else (some x5)
def signalbenchref06_next.j1 : Nat → List (S25) → Int → Int → Int → Bool → Option (Int)
 | 0, _, _, _, _, _ => none
 | k + 1, x0, x1, x5, x6, x39 => if x39 = true then (if 0 ≤ x6 then (if x6 < (x0.length : Int) then ((signalbenchref06_Valid.f ((rd_T25 x0 x6).f0) ((rd_T25 x0 x6).f1)).bind fun t259 => (if t259 = true then (if ((rd_T25 x0 x6).f1) > x1 then (if ((rd_T25 x0 x6).f0) < 0 then (signalbenchref06_next.l0 k x0 x1 ((rd_T25 x0 x6).f1) (wrap64 (x6 + 1))) else (if ((rd_T25 x0 x6).f1) < ((rd_T25 x0 x6).f0) then (signalbenchref06_next.l0 k x0 x1 ((rd_T25 x0 x6).f1) (wrap64 (x6 + 1))) else (signalbenchref06_next.l0 k x0 x1 ((rd_T25 x0 x6).f0) (wrap64 (x6 + 1))))) else (signalbenchref06_next.l0 k x0 x1 ((rd_T25 x0 x6).f0) (wrap64 (x6 + 1)))) else (signalbenchref06_next.l0 k x0 x1 ((rd_T25 x0 x6).f0) (wrap64 (x6 + 1))))) else (none)) else (none)) else (if 0 ≤ x6 then (if x6 < (x0.length : Int) then ((signalbenchref06_Valid.f ((rd_T25 x0 x6).f0) ((rd_T25 x0 x6).f1)).bind fun t265 => (if t265 = true then (if ((rd_T25 x0 x6).f1) > x1 then (if x5 < 0 then (signalbenchref06_next.l0 k x0 x1 ((rd_T25 x0 x6).f1) (wrap64 (x6 + 1))) else (if ((rd_T25 x0 x6).f1) < x5 then (signalbenchref06_next.l0 k x0 x1 ((rd_T25 x0 x6).f1) (wrap64 (x6 + 1))) else (signalbenchref06_next.l0 k x0 x1 x5 (wrap64 (x6 + 1))))) else (signalbenchref06_next.l0 k x0 x1 x5 (wrap64 (x6 + 1)))) else (signalbenchref06_next.l0 k x0 x1 x5 (wrap64 (x6 + 1))))) else (none)) else (none))
end
def signalbenchref06_next.f (k : Nat) (l0 : List (S25)) (a1 : Int) : Option (Int) := signalbenchref06_next.l0 k l0 a1 (-1) 0
theorem signalbenchref06_next.mono_l : ∀ k, (∀ y0 y1 y2 y3, LeO (signalbenchref06_next.l0 k y0 y1 y2 y3) (signalbenchref06_next.l0 (k + 1) y0 y1 y2 y3)) ∧ (∀ y0 y1 y2 y3 y4, LeO (signalbenchref06_next.j1 k y0 y1 y2 y3 y4) (signalbenchref06_next.j1 (k + 1) y0 y1 y2 y3 y4))
 | 0 => ⟨fun _ _ _ _ r h => by simp [signalbenchref06_next.l0] at h, fun _ _ _ _ _ r h => by simp [signalbenchref06_next.j1] at h⟩
 | k + 1 => by
  obtain ⟨ih0, ih1⟩ := signalbenchref06_next.mono_l k
  refine ⟨?_, ?_⟩
  ·
   intro y0 y1 y2 y3
   unfold signalbenchref06_next.l0
   repeat' first
   | (with_reducible exact ih0 _ _ _ _)
   | (with_reducible exact ih1 _ _ _ _ _)
   | (with_reducible exact LeO.refl _)
   | (with_reducible exact LeO.none _)
   | (with_reducible refine LeO.ite ?_ ?_)
   | (with_reducible refine LeO.bind ?_ (fun _ => ?_))
   | exact ih0 _ _ _ _
   | exact ih1 _ _ _ _ _
   | exact LeO.none _
   | refine LeO.ite ?_ ?_
   | refine LeO.bind ?_ (fun _ => ?_)
  ·
   intro y0 y1 y2 y3 y4
   unfold signalbenchref06_next.j1
   repeat' first
   | (with_reducible exact ih0 _ _ _ _)
   | (with_reducible exact ih1 _ _ _ _ _)
   | (with_reducible exact LeO.refl _)
   | (with_reducible exact LeO.none _)
   | (with_reducible refine LeO.ite ?_ ?_)
   | (with_reducible refine LeO.bind ?_ (fun _ => ?_))
   | exact ih0 _ _ _ _
   | exact ih1 _ _ _ _ _
   | exact LeO.none _
   | refine LeO.ite ?_ ?_
   | refine LeO.bind ?_ (fun _ => ?_)
theorem signalbenchref06_next.mono : ∀ a0 a1 k, LeO (signalbenchref06_next.f k a0 a1) (signalbenchref06_next.f (k + 1) a0 a1) := by
 intro a0 a1 k
 obtain ⟨ih0, ih1⟩ := signalbenchref06_next.mono_l k
 unfold signalbenchref06_next.f
 repeat' first
   | (with_reducible exact ih0 _ _ _ _)
   | (with_reducible exact ih1 _ _ _ _ _)
   | (with_reducible exact LeO.refl _)
   | (with_reducible exact LeO.none _)
   | (with_reducible refine LeO.ite ?_ ?_)
   | (with_reducible refine LeO.bind ?_ (fun _ => ?_))
   | exact ih0 _ _ _ _
   | exact ih1 _ _ _ _ _
   | exact LeO.none _
   | refine LeO.ite ?_ ?_
   | refine LeO.bind ?_ (fun _ => ?_)
set_option maxHeartbeats 8000000 in
set_option maxRecDepth 100000 in
theorem signalbenchref06_next.calls (k : Nat) (A0 : Option Addr) (c0 : Nat) (l0 : List (S25)) (a1 : Int) (r : Int) (w : World) (hr0 : Kd.C k25 w A0 l0.length l0) (hc0 : l0.length ≤ c0) (h : signalbenchref06_next.f k l0 a1 = some r) :
  Calls Try.prog 38 #[.slice A0 l0.length c0, .int .i64 a1] w fun e w' => e = .returned (.int .i64 r) ∧ Below w.heap.size w w' := by
 have hu25 := Try.underlying25
 have HR0 := Aside0.mk hr0
 have HC0 := Aside0.mk hc0
 clear hr0 hc0
 have HB := Aside0.mk (Below.refl w.heap.size w)
 have H : (signalbenchref06_next.l0 k l0 a1 (-1) 0) = some r := h
 clear h
 have H' := Aside0.mk H
 clear H
 go_enter Try.func38, Try.ntmps38
 go_wp2
 go_loopg [5, 6] k (fun kq v5 v6 w' => ∃ (x5_1 : Int) (x6_1 : Int), v5 = .int .i64 x5_1 ∧ v6 = .int .i64 x6_1 ∧ Aside0 (signalbenchref06_next.l0 kq l0 a1 x5_1 x6_1 = some r) ∧ Aside0 (kq ≤ k) ∧ Aside0 (Below w.heap.size w w'))
 case atStart => exact ⟨((-1)), (0), (by first | rfl | (simp; done) | (simp [*]; done)), (by first | rfl | (simp; done) | (simp [*]; done)), H', ⟨Nat.le_refl _⟩, ⟨bs HB.out⟩⟩
 case round =>
  clear H'
  try clear p2
  obtain ⟨x5_1, x6_1, rfl, rfl, HA, HK1, HB⟩ := hrel
  cases gk with
  | zero => exact absurd HA.out (by simp [signalbenchref06_next.l0])
  | succ k1 =>
   have H := HA.out
   clear HA
   simp only [signalbenchref06_next.l0] at H
   by_cases c3 : x6_1 < (l0.length : Int)
   ·
    rw [if_pos c3] at H
    have c3b0 : decide (x6_1 < (l0.length : Int)) = true := decide_eq_true c3
    clear c3
    have HC4 := Aside0.mk H
    clear H
    go_upto_region 5 with (fail)
    go_cut [39] (fun v39 wc => ∃ (kq : Nat) (x39_3 : Bool), v39 = .bool x39_3 ∧ Aside0 (signalbenchref06_next.j1 kq l0 a1 x5_1 x6_1 x39_3 = some r) ∧ Aside0 (kq ≤ k1) ∧ Aside0 (Below w.heap.size w wc))
    case first =>
     have H := HC4.out
     clear HC4
     by_cases c5 : 0 ≤ x6_1
     ·
      rw [if_pos c5] at H
      have c5b0 : decide (0 ≤ x6_1) = true := decide_eq_true c5
      clear c5
      (first | rw [c5b0] | (simp only [i64_w, i32_w]; rw [c5b0]) | skip)
      replace H := Option.bind_eq_some_iff.mp H
      obtain ⟨t254, A60, H⟩ := H
      replace H : (if t254 = true then (if ((rd_T25 l0 x6_1).f0) > a1 then (if x5_1 < 0 then (signalbenchref06_next.j1 k1 l0 a1 x5_1 x6_1 true) else (signalbenchref06_next.j1 k1 l0 a1 x5_1 x6_1 (decide (((rd_T25 l0 x6_1).f0) < x5_1)))) else (signalbenchref06_next.j1 k1 l0 a1 x5_1 x6_1 false)) else (signalbenchref06_next.j1 k1 l0 a1 x5_1 x6_1 false)) = some r := H
      have A6 := Aside0.mk A60
      clear A60
      by_cases c7 : t254 = true
      ·
       subst c7
       have H1 : (if ((rd_T25 l0 x6_1).f0) > a1 then (if x5_1 < 0 then (signalbenchref06_next.j1 k1 l0 a1 x5_1 x6_1 true) else (signalbenchref06_next.j1 k1 l0 a1 x5_1 x6_1 (decide (((rd_T25 l0 x6_1).f0) < x5_1)))) else (signalbenchref06_next.j1 k1 l0 a1 x5_1 x6_1 false)) = some r := by rw [if_pos rfl] at H; exact H
       clear H
       have H := H1
       clear H1
       by_cases c8 : ((rd_T25 l0 x6_1).f0) > a1
       ·
        rw [if_pos c8] at H
        have c8b0 : decide (a1 < ((rd_T25 l0 x6_1).f0)) = true := decide_eq_true c8
        clear c8
        by_cases c9 : x5_1 < 0
        ·
         rw [if_pos c9] at H
         have c9b0 : decide (x5_1 < 0) = true := decide_eq_true c9
         clear c9
         have H' := Aside0.mk H
         clear H
         have p253 : 0 ≤ (x6_1 : Int) := of_decide_eq_true (by first | (with_reducible assumption) | assumption)
         have q253 : x6_1 < (l0.length : Int) := of_decide_eq_true (by first | (with_reducible assumption) | assumption)
         obtain ⟨ad253, e253, hx253_0, hx253_1⟩ := at_T25 HR0.out x6_1 p253 q253
         cases e253
         replace hx253_0 := pw_cell_below HB.out hx253_0
         replace hx253_1 := pw_cell_below HB.out hx253_1
         replace p253 := eq_true p253
         replace q253 := eq_true q253
         go_wp2_with (first | ((with_reducible refine gate_callee (f := 17) rfl ?_); refine goesL_ (some 17) rfl rfl Try.func17 (by kernel_rfl) rfl #[.agg #[.int .i64 ((rd_T25 l0 x6_1).f0), .int .i64 ((rd_T25 l0 x6_1).f1)]] rfl (by (try simp only [List.map_toArray, List.map_cons, List.map_nil]); first | done | rfl | (simp only [List.length_drop, List.length_take]; rfl)) ?_; (with_reducible refine (signalbenchref06_Valid.calls ((rd_T25 l0 x6_1).f0) ((rd_T25 l0 x6_1).f1) true _ A6.out).mono ?_); rintro e w10 ⟨rfl, hb⟩; refine ⟨_, rfl, ?_⟩; have n0_ := Aside0.mk (below_step (bs HB.out) hb); clear HB; have HB := n0_; clear n0_; (try clear hb); (try clear hb2); (try clear hk); (try clear hi); have p255 : 0 ≤ (x6_1 : Int) := of_decide_eq_true (by first | (with_reducible assumption) | assumption); have q255 : x6_1 < (l0.length : Int) := of_decide_eq_true (by first | (with_reducible assumption) | assumption); obtain ⟨ad255, e255, hx255_0, hx255_1⟩ := at_T25 HR0.out x6_1 p255 q255; obtain rfl : ad253 = ad255 := (by injection e255); replace hx255_0 := pw_cell_below HB.out hx255_0; replace hx255_1 := pw_cell_below HB.out hx255_1; replace p255 := eq_true p255; replace q255 := eq_true q255))
         go_meet
         case rel => exact ⟨_, (true), (by first | rfl | (simp; done) | (simp [*]; done)), H', ⟨by have := HK1.out; first | omega | exact Nat.le_refl _⟩, ⟨bs HB.out⟩⟩
        ·
         rw [if_neg c9] at H
         have c9b0 : decide (x5_1 < 0) = false := decide_eq_false c9
         clear c9
         have H' := Aside0.mk H
         clear H
         have p253 : 0 ≤ (x6_1 : Int) := of_decide_eq_true (by first | (with_reducible assumption) | assumption)
         have q253 : x6_1 < (l0.length : Int) := of_decide_eq_true (by first | (with_reducible assumption) | assumption)
         obtain ⟨ad253, e253, hx253_0, hx253_1⟩ := at_T25 HR0.out x6_1 p253 q253
         cases e253
         replace hx253_0 := pw_cell_below HB.out hx253_0
         replace hx253_1 := pw_cell_below HB.out hx253_1
         replace p253 := eq_true p253
         replace q253 := eq_true q253
         go_wp2_with (first | ((with_reducible refine gate_callee (f := 17) rfl ?_); refine goesL_ (some 17) rfl rfl Try.func17 (by kernel_rfl) rfl #[.agg #[.int .i64 ((rd_T25 l0 x6_1).f0), .int .i64 ((rd_T25 l0 x6_1).f1)]] rfl (by (try simp only [List.map_toArray, List.map_cons, List.map_nil]); first | done | rfl | (simp only [List.length_drop, List.length_take]; rfl)) ?_; (with_reducible refine (signalbenchref06_Valid.calls ((rd_T25 l0 x6_1).f0) ((rd_T25 l0 x6_1).f1) true _ A6.out).mono ?_); rintro e w11 ⟨rfl, hb⟩; refine ⟨_, rfl, ?_⟩; have n0_ := Aside0.mk (below_step (bs HB.out) hb); clear HB; have HB := n0_; clear n0_; (try clear hb); (try clear hb2); (try clear hk); (try clear hi); have p255 : 0 ≤ (x6_1 : Int) := of_decide_eq_true (by first | (with_reducible assumption) | assumption); have q255 : x6_1 < (l0.length : Int) := of_decide_eq_true (by first | (with_reducible assumption) | assumption); obtain ⟨ad255, e255, hx255_0, hx255_1⟩ := at_T25 HR0.out x6_1 p255 q255; obtain rfl : ad253 = ad255 := (by injection e255); replace hx255_0 := pw_cell_below HB.out hx255_0; replace hx255_1 := pw_cell_below HB.out hx255_1; replace p255 := eq_true p255; replace q255 := eq_true q255; have p256 : 0 ≤ (x6_1 : Int) := of_decide_eq_true (by first | (with_reducible assumption) | assumption); have q256 : x6_1 < (l0.length : Int) := of_decide_eq_true (by first | (with_reducible assumption) | assumption); obtain ⟨ad256, e256, hx256_0, hx256_1⟩ := at_T25 HR0.out x6_1 p256 q256; obtain rfl : ad253 = ad256 := (by injection e256); replace hx256_0 := pw_cell_below HB.out hx256_0; replace hx256_1 := pw_cell_below HB.out hx256_1; replace p256 := eq_true p256; replace q256 := eq_true q256))
         go_meet
         case rel => exact ⟨_, (decide (((rd_T25 l0 x6_1).f0) < x5_1)), (by first | rfl | (simp; done) | (simp [*]; done)), H', ⟨by have := HK1.out; first | omega | exact Nat.le_refl _⟩, ⟨bs HB.out⟩⟩
       ·
        rw [if_neg c8] at H
        have c8b0 : decide (a1 < ((rd_T25 l0 x6_1).f0)) = false := decide_eq_false c8
        clear c8
        have H' := Aside0.mk H
        clear H
        have p253 : 0 ≤ (x6_1 : Int) := of_decide_eq_true (by first | (with_reducible assumption) | assumption)
        have q253 : x6_1 < (l0.length : Int) := of_decide_eq_true (by first | (with_reducible assumption) | assumption)
        obtain ⟨ad253, e253, hx253_0, hx253_1⟩ := at_T25 HR0.out x6_1 p253 q253
        cases e253
        replace hx253_0 := pw_cell_below HB.out hx253_0
        replace hx253_1 := pw_cell_below HB.out hx253_1
        replace p253 := eq_true p253
        replace q253 := eq_true q253
        go_wp2_with (first | ((with_reducible refine gate_callee (f := 17) rfl ?_); refine goesL_ (some 17) rfl rfl Try.func17 (by kernel_rfl) rfl #[.agg #[.int .i64 ((rd_T25 l0 x6_1).f0), .int .i64 ((rd_T25 l0 x6_1).f1)]] rfl (by (try simp only [List.map_toArray, List.map_cons, List.map_nil]); first | done | rfl | (simp only [List.length_drop, List.length_take]; rfl)) ?_; (with_reducible refine (signalbenchref06_Valid.calls ((rd_T25 l0 x6_1).f0) ((rd_T25 l0 x6_1).f1) true _ A6.out).mono ?_); rintro e w12 ⟨rfl, hb⟩; refine ⟨_, rfl, ?_⟩; have n0_ := Aside0.mk (below_step (bs HB.out) hb); clear HB; have HB := n0_; clear n0_; (try clear hb); (try clear hb2); (try clear hk); (try clear hi); have p255 : 0 ≤ (x6_1 : Int) := of_decide_eq_true (by first | (with_reducible assumption) | assumption); have q255 : x6_1 < (l0.length : Int) := of_decide_eq_true (by first | (with_reducible assumption) | assumption); obtain ⟨ad255, e255, hx255_0, hx255_1⟩ := at_T25 HR0.out x6_1 p255 q255; obtain rfl : ad253 = ad255 := (by injection e255); replace hx255_0 := pw_cell_below HB.out hx255_0; replace hx255_1 := pw_cell_below HB.out hx255_1; replace p255 := eq_true p255; replace q255 := eq_true q255))
        go_meet
        case rel => exact ⟨_, (false), (by first | rfl | (simp; done) | (simp [*]; done)), H', ⟨by have := HK1.out; first | omega | exact Nat.le_refl _⟩, ⟨bs HB.out⟩⟩
      ·
       replace c7 := Bool.eq_false_iff.mpr c7
       subst c7
       have H1 : (signalbenchref06_next.j1 k1 l0 a1 x5_1 x6_1 false) = some r := by rw [if_neg (show ¬ (false = true) by decide)] at H; exact H
       clear H
       have H := H1
       clear H1
       have H' := Aside0.mk H
       clear H
       have p253 : 0 ≤ (x6_1 : Int) := of_decide_eq_true (by first | (with_reducible assumption) | assumption)
       have q253 : x6_1 < (l0.length : Int) := of_decide_eq_true (by first | (with_reducible assumption) | assumption)
       obtain ⟨ad253, e253, hx253_0, hx253_1⟩ := at_T25 HR0.out x6_1 p253 q253
       cases e253
       replace hx253_0 := pw_cell_below HB.out hx253_0
       replace hx253_1 := pw_cell_below HB.out hx253_1
       replace p253 := eq_true p253
       replace q253 := eq_true q253
       go_wp2_with (first | ((with_reducible refine gate_callee (f := 17) rfl ?_); refine goesL_ (some 17) rfl rfl Try.func17 (by kernel_rfl) rfl #[.agg #[.int .i64 ((rd_T25 l0 x6_1).f0), .int .i64 ((rd_T25 l0 x6_1).f1)]] rfl (by (try simp only [List.map_toArray, List.map_cons, List.map_nil]); first | done | rfl | (simp only [List.length_drop, List.length_take]; rfl)) ?_; (with_reducible refine (signalbenchref06_Valid.calls ((rd_T25 l0 x6_1).f0) ((rd_T25 l0 x6_1).f1) false _ A6.out).mono ?_); rintro e w13 ⟨rfl, hb⟩; refine ⟨_, rfl, ?_⟩; have n0_ := Aside0.mk (below_step (bs HB.out) hb); clear HB; have HB := n0_; clear n0_; (try clear hb); (try clear hb2); (try clear hk); (try clear hi)))
       go_meet
       case rel => exact ⟨_, (false), (by first | rfl | (simp; done) | (simp [*]; done)), H', ⟨by have := HK1.out; first | omega | exact Nat.le_refl _⟩, ⟨bs HB.out⟩⟩
     ·
      rw [if_neg c5] at H
      exact absurd H (by simp)
    case rest =>
     clear HC4
     try clear c1
     try clear p2
     try clear q2
     try clear hx2
     try clear c3
     try clear c3b0
     try clear c5
     try clear c5b0
     try clear c7
     try clear c8
     try clear c8b0
     try clear c9
     try clear c9b0
     try clear hx253_0
     try clear hx253_1
     try clear hx255_0
     try clear hx255_1
     try clear hx256_0
     try clear hx256_1
     try clear p2
     try clear p253
     try clear p255
     try clear p256
     try clear q253
     try clear q255
     try clear q256
     obtain ⟨kq, x39_3, rfl, HA, HJ3, HB⟩ := hcut
     cases kq with
     | zero => exact absurd HA.out (by simp [signalbenchref06_next.j1])
     | succ kj3 =>
      have H := HA.out
      clear HA
      simp only [signalbenchref06_next.j1] at H
      by_cases c14 : x39_3 = true
      ·
       subst c14
       have H1 : (if 0 ≤ x6_1 then (if x6_1 < (l0.length : Int) then ((signalbenchref06_Valid.f ((rd_T25 l0 x6_1).f0) ((rd_T25 l0 x6_1).f1)).bind fun t259 => (if t259 = true then (if ((rd_T25 l0 x6_1).f1) > a1 then (if ((rd_T25 l0 x6_1).f0) < 0 then (signalbenchref06_next.l0 kj3 l0 a1 ((rd_T25 l0 x6_1).f1) (wrap64 (x6_1 + 1))) else (if ((rd_T25 l0 x6_1).f1) < ((rd_T25 l0 x6_1).f0) then (signalbenchref06_next.l0 kj3 l0 a1 ((rd_T25 l0 x6_1).f1) (wrap64 (x6_1 + 1))) else (signalbenchref06_next.l0 kj3 l0 a1 ((rd_T25 l0 x6_1).f0) (wrap64 (x6_1 + 1))))) else (signalbenchref06_next.l0 kj3 l0 a1 ((rd_T25 l0 x6_1).f0) (wrap64 (x6_1 + 1)))) else (signalbenchref06_next.l0 kj3 l0 a1 ((rd_T25 l0 x6_1).f0) (wrap64 (x6_1 + 1))))) else (none)) else (none)) = some r := by rw [if_pos rfl] at H; exact H
       clear H
       have H := H1
       clear H1
       by_cases c15 : 0 ≤ x6_1
       ·
        rw [if_pos c15] at H
        have c15b0 : decide (0 ≤ x6_1) = true := decide_eq_true c15
        clear c15
        by_cases c16 : x6_1 < (l0.length : Int)
        ·
         rw [if_pos c16] at H
         have c16b0 : decide (x6_1 < (l0.length : Int)) = true := decide_eq_true c16
         clear c16
         replace H := Option.bind_eq_some_iff.mp H
         obtain ⟨t259, A170, H⟩ := H
         replace H : (if t259 = true then (if ((rd_T25 l0 x6_1).f1) > a1 then (if ((rd_T25 l0 x6_1).f0) < 0 then (signalbenchref06_next.l0 kj3 l0 a1 ((rd_T25 l0 x6_1).f1) (wrap64 (x6_1 + 1))) else (if ((rd_T25 l0 x6_1).f1) < ((rd_T25 l0 x6_1).f0) then (signalbenchref06_next.l0 kj3 l0 a1 ((rd_T25 l0 x6_1).f1) (wrap64 (x6_1 + 1))) else (signalbenchref06_next.l0 kj3 l0 a1 ((rd_T25 l0 x6_1).f0) (wrap64 (x6_1 + 1))))) else (signalbenchref06_next.l0 kj3 l0 a1 ((rd_T25 l0 x6_1).f0) (wrap64 (x6_1 + 1)))) else (signalbenchref06_next.l0 kj3 l0 a1 ((rd_T25 l0 x6_1).f0) (wrap64 (x6_1 + 1)))) = some r := H
         have A17 := Aside0.mk A170
         clear A170
         by_cases c18 : t259 = true
         ·
          subst c18
          have H1 : (if ((rd_T25 l0 x6_1).f1) > a1 then (if ((rd_T25 l0 x6_1).f0) < 0 then (signalbenchref06_next.l0 kj3 l0 a1 ((rd_T25 l0 x6_1).f1) (wrap64 (x6_1 + 1))) else (if ((rd_T25 l0 x6_1).f1) < ((rd_T25 l0 x6_1).f0) then (signalbenchref06_next.l0 kj3 l0 a1 ((rd_T25 l0 x6_1).f1) (wrap64 (x6_1 + 1))) else (signalbenchref06_next.l0 kj3 l0 a1 ((rd_T25 l0 x6_1).f0) (wrap64 (x6_1 + 1))))) else (signalbenchref06_next.l0 kj3 l0 a1 ((rd_T25 l0 x6_1).f0) (wrap64 (x6_1 + 1)))) = some r := by rw [if_pos rfl] at H; exact H
          clear H
          have H := H1
          clear H1
          by_cases c19 : ((rd_T25 l0 x6_1).f1) > a1
          ·
           rw [if_pos c19] at H
           have c19b0 : decide (a1 < ((rd_T25 l0 x6_1).f1)) = true := decide_eq_true c19
           clear c19
           by_cases c20 : ((rd_T25 l0 x6_1).f0) < 0
           ·
            rw [if_pos c20] at H
            have c20b0 : decide (((rd_T25 l0 x6_1).f0) < 0) = true := decide_eq_true c20
            clear c20
            have H' := Aside0.mk H
            clear H
            have p257 : 0 ≤ (x6_1 : Int) := of_decide_eq_true (by first | (with_reducible assumption) | assumption)
            have q257 : x6_1 < (l0.length : Int) := of_decide_eq_true (by first | (with_reducible assumption) | assumption)
            obtain ⟨ad257, e257, hx257_0, hx257_1⟩ := at_T25 HR0.out x6_1 p257 q257
            cases e257
            replace hx257_0 := pw_cell_below HB.out hx257_0
            replace hx257_1 := pw_cell_below HB.out hx257_1
            replace p257 := eq_true p257
            replace q257 := eq_true q257
            have p258 : 0 ≤ (x6_1 : Int) := of_decide_eq_true (by first | (with_reducible assumption) | assumption)
            have q258 : x6_1 < (l0.length : Int) := of_decide_eq_true (by first | (with_reducible assumption) | assumption)
            obtain ⟨ad258, e258, hx258_0, hx258_1⟩ := at_T25 HR0.out x6_1 p258 q258
            obtain rfl : ad257 = ad258 := (by injection e258)
            replace hx258_0 := pw_cell_below HB.out hx258_0
            replace hx258_1 := pw_cell_below HB.out hx258_1
            replace p258 := eq_true p258
            replace q258 := eq_true q258
            go_wp2_with (first | ((with_reducible refine gate_callee (f := 17) rfl ?_); refine goesL_ (some 49) rfl rfl Try.func17 (by kernel_rfl) rfl #[.agg #[.int .i64 ((rd_T25 l0 x6_1).f0), .int .i64 ((rd_T25 l0 x6_1).f1)]] rfl (by (try simp only [List.map_toArray, List.map_cons, List.map_nil]); first | done | rfl | (simp only [List.length_drop, List.length_take]; rfl)) ?_; (with_reducible refine (signalbenchref06_Valid.calls ((rd_T25 l0 x6_1).f0) ((rd_T25 l0 x6_1).f1) true _ A17.out).mono ?_); rintro e w21 ⟨rfl, hb⟩; refine ⟨_, rfl, ?_⟩; have n0_ := Aside0.mk (below_step (bs HB.out) hb); clear HB; have HB := n0_; clear n0_; (try clear hb); (try clear hb2); (try clear hk); (try clear hi); have p260 : 0 ≤ (x6_1 : Int) := of_decide_eq_true (by first | (with_reducible assumption) | assumption); have q260 : x6_1 < (l0.length : Int) := of_decide_eq_true (by first | (with_reducible assumption) | assumption); obtain ⟨ad260, e260, hx260_0, hx260_1⟩ := at_T25 HR0.out x6_1 p260 q260; obtain rfl : ad257 = ad260 := (by injection e260); replace hx260_0 := pw_cell_below HB.out hx260_0; replace hx260_1 := pw_cell_below HB.out hx260_1; replace p260 := eq_true p260; replace q260 := eq_true q260; have p261 : 0 ≤ (x6_1 : Int) := of_decide_eq_true (by first | (with_reducible assumption) | assumption); have q261 : x6_1 < (l0.length : Int) := of_decide_eq_true (by first | (with_reducible assumption) | assumption); obtain ⟨ad261, e261, hx261_0, hx261_1⟩ := at_T25 HR0.out x6_1 p261 q261; obtain rfl : ad257 = ad261 := (by injection e261); replace hx261_0 := pw_cell_below HB.out hx261_0; replace hx261_1 := pw_cell_below HB.out hx261_1; replace p261 := eq_true p261; replace q261 := eq_true q261))
            go_roundg kj3
            case measure => have := HK1.out; have := HJ3.out; omega
            case rel => exact ⟨((rd_T25 l0 x6_1).f1), (wrap64 (x6_1 + 1)), (by first | rfl | (simp; done) | (simp [*]; done)), (by first | rfl | (simp; done) | (simp [*]; done)), H', ⟨by have := HK1.out; have := HJ3.out; omega⟩, ⟨bs HB.out⟩⟩
           ·
            rw [if_neg c20] at H
            have c20b0 : decide (((rd_T25 l0 x6_1).f0) < 0) = false := decide_eq_false c20
            clear c20
            by_cases c22 : ((rd_T25 l0 x6_1).f1) < ((rd_T25 l0 x6_1).f0)
            ·
             rw [if_pos c22] at H
             have c22b0 : decide (((rd_T25 l0 x6_1).f1) < ((rd_T25 l0 x6_1).f0)) = true := decide_eq_true c22
             clear c22
             have H' := Aside0.mk H
             clear H
             have p257 : 0 ≤ (x6_1 : Int) := of_decide_eq_true (by first | (with_reducible assumption) | assumption)
             have q257 : x6_1 < (l0.length : Int) := of_decide_eq_true (by first | (with_reducible assumption) | assumption)
             obtain ⟨ad257, e257, hx257_0, hx257_1⟩ := at_T25 HR0.out x6_1 p257 q257
             cases e257
             replace hx257_0 := pw_cell_below HB.out hx257_0
             replace hx257_1 := pw_cell_below HB.out hx257_1
             replace p257 := eq_true p257
             replace q257 := eq_true q257
             have p258 : 0 ≤ (x6_1 : Int) := of_decide_eq_true (by first | (with_reducible assumption) | assumption)
             have q258 : x6_1 < (l0.length : Int) := of_decide_eq_true (by first | (with_reducible assumption) | assumption)
             obtain ⟨ad258, e258, hx258_0, hx258_1⟩ := at_T25 HR0.out x6_1 p258 q258
             obtain rfl : ad257 = ad258 := (by injection e258)
             replace hx258_0 := pw_cell_below HB.out hx258_0
             replace hx258_1 := pw_cell_below HB.out hx258_1
             replace p258 := eq_true p258
             replace q258 := eq_true q258
             go_wp2_with (first | ((with_reducible refine gate_callee (f := 17) rfl ?_); refine goesL_ (some 49) rfl rfl Try.func17 (by kernel_rfl) rfl #[.agg #[.int .i64 ((rd_T25 l0 x6_1).f0), .int .i64 ((rd_T25 l0 x6_1).f1)]] rfl (by (try simp only [List.map_toArray, List.map_cons, List.map_nil]); first | done | rfl | (simp only [List.length_drop, List.length_take]; rfl)) ?_; (with_reducible refine (signalbenchref06_Valid.calls ((rd_T25 l0 x6_1).f0) ((rd_T25 l0 x6_1).f1) true _ A17.out).mono ?_); rintro e w23 ⟨rfl, hb⟩; refine ⟨_, rfl, ?_⟩; have n0_ := Aside0.mk (below_step (bs HB.out) hb); clear HB; have HB := n0_; clear n0_; (try clear hb); (try clear hb2); (try clear hk); (try clear hi); have p260 : 0 ≤ (x6_1 : Int) := of_decide_eq_true (by first | (with_reducible assumption) | assumption); have q260 : x6_1 < (l0.length : Int) := of_decide_eq_true (by first | (with_reducible assumption) | assumption); obtain ⟨ad260, e260, hx260_0, hx260_1⟩ := at_T25 HR0.out x6_1 p260 q260; obtain rfl : ad257 = ad260 := (by injection e260); replace hx260_0 := pw_cell_below HB.out hx260_0; replace hx260_1 := pw_cell_below HB.out hx260_1; replace p260 := eq_true p260; replace q260 := eq_true q260; have p262 : 0 ≤ (x6_1 : Int) := of_decide_eq_true (by first | (with_reducible assumption) | assumption); have q262 : x6_1 < (l0.length : Int) := of_decide_eq_true (by first | (with_reducible assumption) | assumption); obtain ⟨ad262, e262, hx262_0, hx262_1⟩ := at_T25 HR0.out x6_1 p262 q262; obtain rfl : ad257 = ad262 := (by injection e262); replace hx262_0 := pw_cell_below HB.out hx262_0; replace hx262_1 := pw_cell_below HB.out hx262_1; replace p262 := eq_true p262; replace q262 := eq_true q262; have p263 : 0 ≤ (x6_1 : Int) := of_decide_eq_true (by first | (with_reducible assumption) | assumption); have q263 : x6_1 < (l0.length : Int) := of_decide_eq_true (by first | (with_reducible assumption) | assumption); obtain ⟨ad263, e263, hx263_0, hx263_1⟩ := at_T25 HR0.out x6_1 p263 q263; obtain rfl : ad257 = ad263 := (by injection e263); replace hx263_0 := pw_cell_below HB.out hx263_0; replace hx263_1 := pw_cell_below HB.out hx263_1; replace p263 := eq_true p263; replace q263 := eq_true q263))
             go_roundg kj3
             case measure => have := HK1.out; have := HJ3.out; omega
             case rel => exact ⟨((rd_T25 l0 x6_1).f1), (wrap64 (x6_1 + 1)), (by first | rfl | (simp; done) | (simp [*]; done)), (by first | rfl | (simp; done) | (simp [*]; done)), H', ⟨by have := HK1.out; have := HJ3.out; omega⟩, ⟨bs HB.out⟩⟩
            ·
             rw [if_neg c22] at H
             have c22b0 : decide (((rd_T25 l0 x6_1).f1) < ((rd_T25 l0 x6_1).f0)) = false := decide_eq_false c22
             clear c22
             have H' := Aside0.mk H
             clear H
             have p257 : 0 ≤ (x6_1 : Int) := of_decide_eq_true (by first | (with_reducible assumption) | assumption)
             have q257 : x6_1 < (l0.length : Int) := of_decide_eq_true (by first | (with_reducible assumption) | assumption)
             obtain ⟨ad257, e257, hx257_0, hx257_1⟩ := at_T25 HR0.out x6_1 p257 q257
             cases e257
             replace hx257_0 := pw_cell_below HB.out hx257_0
             replace hx257_1 := pw_cell_below HB.out hx257_1
             replace p257 := eq_true p257
             replace q257 := eq_true q257
             have p258 : 0 ≤ (x6_1 : Int) := of_decide_eq_true (by first | (with_reducible assumption) | assumption)
             have q258 : x6_1 < (l0.length : Int) := of_decide_eq_true (by first | (with_reducible assumption) | assumption)
             obtain ⟨ad258, e258, hx258_0, hx258_1⟩ := at_T25 HR0.out x6_1 p258 q258
             obtain rfl : ad257 = ad258 := (by injection e258)
             replace hx258_0 := pw_cell_below HB.out hx258_0
             replace hx258_1 := pw_cell_below HB.out hx258_1
             replace p258 := eq_true p258
             replace q258 := eq_true q258
             go_wp2_with (first | ((with_reducible refine gate_callee (f := 17) rfl ?_); refine goesL_ (some 49) rfl rfl Try.func17 (by kernel_rfl) rfl #[.agg #[.int .i64 ((rd_T25 l0 x6_1).f0), .int .i64 ((rd_T25 l0 x6_1).f1)]] rfl (by (try simp only [List.map_toArray, List.map_cons, List.map_nil]); first | done | rfl | (simp only [List.length_drop, List.length_take]; rfl)) ?_; (with_reducible refine (signalbenchref06_Valid.calls ((rd_T25 l0 x6_1).f0) ((rd_T25 l0 x6_1).f1) true _ A17.out).mono ?_); rintro e w24 ⟨rfl, hb⟩; refine ⟨_, rfl, ?_⟩; have n0_ := Aside0.mk (below_step (bs HB.out) hb); clear HB; have HB := n0_; clear n0_; (try clear hb); (try clear hb2); (try clear hk); (try clear hi); have p260 : 0 ≤ (x6_1 : Int) := of_decide_eq_true (by first | (with_reducible assumption) | assumption); have q260 : x6_1 < (l0.length : Int) := of_decide_eq_true (by first | (with_reducible assumption) | assumption); obtain ⟨ad260, e260, hx260_0, hx260_1⟩ := at_T25 HR0.out x6_1 p260 q260; obtain rfl : ad257 = ad260 := (by injection e260); replace hx260_0 := pw_cell_below HB.out hx260_0; replace hx260_1 := pw_cell_below HB.out hx260_1; replace p260 := eq_true p260; replace q260 := eq_true q260; have p262 : 0 ≤ (x6_1 : Int) := of_decide_eq_true (by first | (with_reducible assumption) | assumption); have q262 : x6_1 < (l0.length : Int) := of_decide_eq_true (by first | (with_reducible assumption) | assumption); obtain ⟨ad262, e262, hx262_0, hx262_1⟩ := at_T25 HR0.out x6_1 p262 q262; obtain rfl : ad257 = ad262 := (by injection e262); replace hx262_0 := pw_cell_below HB.out hx262_0; replace hx262_1 := pw_cell_below HB.out hx262_1; replace p262 := eq_true p262; replace q262 := eq_true q262))
             go_roundg kj3
             case measure => have := HK1.out; have := HJ3.out; omega
             case rel => exact ⟨((rd_T25 l0 x6_1).f0), (wrap64 (x6_1 + 1)), (by first | rfl | (simp; done) | (simp [*]; done)), (by first | rfl | (simp; done) | (simp [*]; done)), H', ⟨by have := HK1.out; have := HJ3.out; omega⟩, ⟨bs HB.out⟩⟩
          ·
           rw [if_neg c19] at H
           have c19b0 : decide (a1 < ((rd_T25 l0 x6_1).f1)) = false := decide_eq_false c19
           clear c19
           have H' := Aside0.mk H
           clear H
           have p257 : 0 ≤ (x6_1 : Int) := of_decide_eq_true (by first | (with_reducible assumption) | assumption)
           have q257 : x6_1 < (l0.length : Int) := of_decide_eq_true (by first | (with_reducible assumption) | assumption)
           obtain ⟨ad257, e257, hx257_0, hx257_1⟩ := at_T25 HR0.out x6_1 p257 q257
           cases e257
           replace hx257_0 := pw_cell_below HB.out hx257_0
           replace hx257_1 := pw_cell_below HB.out hx257_1
           replace p257 := eq_true p257
           replace q257 := eq_true q257
           have p258 : 0 ≤ (x6_1 : Int) := of_decide_eq_true (by first | (with_reducible assumption) | assumption)
           have q258 : x6_1 < (l0.length : Int) := of_decide_eq_true (by first | (with_reducible assumption) | assumption)
           obtain ⟨ad258, e258, hx258_0, hx258_1⟩ := at_T25 HR0.out x6_1 p258 q258
           obtain rfl : ad257 = ad258 := (by injection e258)
           replace hx258_0 := pw_cell_below HB.out hx258_0
           replace hx258_1 := pw_cell_below HB.out hx258_1
           replace p258 := eq_true p258
           replace q258 := eq_true q258
           go_wp2_with (first | ((with_reducible refine gate_callee (f := 17) rfl ?_); refine goesL_ (some 49) rfl rfl Try.func17 (by kernel_rfl) rfl #[.agg #[.int .i64 ((rd_T25 l0 x6_1).f0), .int .i64 ((rd_T25 l0 x6_1).f1)]] rfl (by (try simp only [List.map_toArray, List.map_cons, List.map_nil]); first | done | rfl | (simp only [List.length_drop, List.length_take]; rfl)) ?_; (with_reducible refine (signalbenchref06_Valid.calls ((rd_T25 l0 x6_1).f0) ((rd_T25 l0 x6_1).f1) true _ A17.out).mono ?_); rintro e w25 ⟨rfl, hb⟩; refine ⟨_, rfl, ?_⟩; have n0_ := Aside0.mk (below_step (bs HB.out) hb); clear HB; have HB := n0_; clear n0_; (try clear hb); (try clear hb2); (try clear hk); (try clear hi); have p260 : 0 ≤ (x6_1 : Int) := of_decide_eq_true (by first | (with_reducible assumption) | assumption); have q260 : x6_1 < (l0.length : Int) := of_decide_eq_true (by first | (with_reducible assumption) | assumption); obtain ⟨ad260, e260, hx260_0, hx260_1⟩ := at_T25 HR0.out x6_1 p260 q260; obtain rfl : ad257 = ad260 := (by injection e260); replace hx260_0 := pw_cell_below HB.out hx260_0; replace hx260_1 := pw_cell_below HB.out hx260_1; replace p260 := eq_true p260; replace q260 := eq_true q260))
           go_roundg kj3
           case measure => have := HK1.out; have := HJ3.out; omega
           case rel => exact ⟨((rd_T25 l0 x6_1).f0), (wrap64 (x6_1 + 1)), (by first | rfl | (simp; done) | (simp [*]; done)), (by first | rfl | (simp; done) | (simp [*]; done)), H', ⟨by have := HK1.out; have := HJ3.out; omega⟩, ⟨bs HB.out⟩⟩
         ·
          replace c18 := Bool.eq_false_iff.mpr c18
          subst c18
          have H1 : (signalbenchref06_next.l0 kj3 l0 a1 ((rd_T25 l0 x6_1).f0) (wrap64 (x6_1 + 1))) = some r := by rw [if_neg (show ¬ (false = true) by decide)] at H; exact H
          clear H
          have H := H1
          clear H1
          have H' := Aside0.mk H
          clear H
          have p257 : 0 ≤ (x6_1 : Int) := of_decide_eq_true (by first | (with_reducible assumption) | assumption)
          have q257 : x6_1 < (l0.length : Int) := of_decide_eq_true (by first | (with_reducible assumption) | assumption)
          obtain ⟨ad257, e257, hx257_0, hx257_1⟩ := at_T25 HR0.out x6_1 p257 q257
          cases e257
          replace hx257_0 := pw_cell_below HB.out hx257_0
          replace hx257_1 := pw_cell_below HB.out hx257_1
          replace p257 := eq_true p257
          replace q257 := eq_true q257
          have p258 : 0 ≤ (x6_1 : Int) := of_decide_eq_true (by first | (with_reducible assumption) | assumption)
          have q258 : x6_1 < (l0.length : Int) := of_decide_eq_true (by first | (with_reducible assumption) | assumption)
          obtain ⟨ad258, e258, hx258_0, hx258_1⟩ := at_T25 HR0.out x6_1 p258 q258
          obtain rfl : ad257 = ad258 := (by injection e258)
          replace hx258_0 := pw_cell_below HB.out hx258_0
          replace hx258_1 := pw_cell_below HB.out hx258_1
          replace p258 := eq_true p258
          replace q258 := eq_true q258
          go_wp2_with (first | ((with_reducible refine gate_callee (f := 17) rfl ?_); refine goesL_ (some 49) rfl rfl Try.func17 (by kernel_rfl) rfl #[.agg #[.int .i64 ((rd_T25 l0 x6_1).f0), .int .i64 ((rd_T25 l0 x6_1).f1)]] rfl (by (try simp only [List.map_toArray, List.map_cons, List.map_nil]); first | done | rfl | (simp only [List.length_drop, List.length_take]; rfl)) ?_; (with_reducible refine (signalbenchref06_Valid.calls ((rd_T25 l0 x6_1).f0) ((rd_T25 l0 x6_1).f1) false _ A17.out).mono ?_); rintro e w26 ⟨rfl, hb⟩; refine ⟨_, rfl, ?_⟩; have n0_ := Aside0.mk (below_step (bs HB.out) hb); clear HB; have HB := n0_; clear n0_; (try clear hb); (try clear hb2); (try clear hk); (try clear hi)))
          go_roundg kj3
          case measure => have := HK1.out; have := HJ3.out; omega
          case rel => exact ⟨((rd_T25 l0 x6_1).f0), (wrap64 (x6_1 + 1)), (by first | rfl | (simp; done) | (simp [*]; done)), (by first | rfl | (simp; done) | (simp [*]; done)), H', ⟨by have := HK1.out; have := HJ3.out; omega⟩, ⟨bs HB.out⟩⟩
        ·
         rw [if_neg c16] at H
         exact absurd H (by simp)
       ·
        rw [if_neg c15] at H
        exact absurd H (by simp)
      ·
       replace c14 := Bool.eq_false_iff.mpr c14
       subst c14
       have H1 : (if 0 ≤ x6_1 then (if x6_1 < (l0.length : Int) then ((signalbenchref06_Valid.f ((rd_T25 l0 x6_1).f0) ((rd_T25 l0 x6_1).f1)).bind fun t265 => (if t265 = true then (if ((rd_T25 l0 x6_1).f1) > a1 then (if x5_1 < 0 then (signalbenchref06_next.l0 kj3 l0 a1 ((rd_T25 l0 x6_1).f1) (wrap64 (x6_1 + 1))) else (if ((rd_T25 l0 x6_1).f1) < x5_1 then (signalbenchref06_next.l0 kj3 l0 a1 ((rd_T25 l0 x6_1).f1) (wrap64 (x6_1 + 1))) else (signalbenchref06_next.l0 kj3 l0 a1 x5_1 (wrap64 (x6_1 + 1))))) else (signalbenchref06_next.l0 kj3 l0 a1 x5_1 (wrap64 (x6_1 + 1)))) else (signalbenchref06_next.l0 kj3 l0 a1 x5_1 (wrap64 (x6_1 + 1))))) else (none)) else (none)) = some r := by rw [if_neg (show ¬ (false = true) by decide)] at H; exact H
       clear H
       have H := H1
       clear H1
       by_cases c27 : 0 ≤ x6_1
       ·
        rw [if_pos c27] at H
        have c27b0 : decide (0 ≤ x6_1) = true := decide_eq_true c27
        clear c27
        by_cases c28 : x6_1 < (l0.length : Int)
        ·
         rw [if_pos c28] at H
         have c28b0 : decide (x6_1 < (l0.length : Int)) = true := decide_eq_true c28
         clear c28
         replace H := Option.bind_eq_some_iff.mp H
         obtain ⟨t265, A290, H⟩ := H
         replace H : (if t265 = true then (if ((rd_T25 l0 x6_1).f1) > a1 then (if x5_1 < 0 then (signalbenchref06_next.l0 kj3 l0 a1 ((rd_T25 l0 x6_1).f1) (wrap64 (x6_1 + 1))) else (if ((rd_T25 l0 x6_1).f1) < x5_1 then (signalbenchref06_next.l0 kj3 l0 a1 ((rd_T25 l0 x6_1).f1) (wrap64 (x6_1 + 1))) else (signalbenchref06_next.l0 kj3 l0 a1 x5_1 (wrap64 (x6_1 + 1))))) else (signalbenchref06_next.l0 kj3 l0 a1 x5_1 (wrap64 (x6_1 + 1)))) else (signalbenchref06_next.l0 kj3 l0 a1 x5_1 (wrap64 (x6_1 + 1)))) = some r := H
         have A29 := Aside0.mk A290
         clear A290
         by_cases c30 : t265 = true
         ·
          subst c30
          have H1 : (if ((rd_T25 l0 x6_1).f1) > a1 then (if x5_1 < 0 then (signalbenchref06_next.l0 kj3 l0 a1 ((rd_T25 l0 x6_1).f1) (wrap64 (x6_1 + 1))) else (if ((rd_T25 l0 x6_1).f1) < x5_1 then (signalbenchref06_next.l0 kj3 l0 a1 ((rd_T25 l0 x6_1).f1) (wrap64 (x6_1 + 1))) else (signalbenchref06_next.l0 kj3 l0 a1 x5_1 (wrap64 (x6_1 + 1))))) else (signalbenchref06_next.l0 kj3 l0 a1 x5_1 (wrap64 (x6_1 + 1)))) = some r := by rw [if_pos rfl] at H; exact H
          clear H
          have H := H1
          clear H1
          by_cases c31 : ((rd_T25 l0 x6_1).f1) > a1
          ·
           rw [if_pos c31] at H
           have c31b0 : decide (a1 < ((rd_T25 l0 x6_1).f1)) = true := decide_eq_true c31
           clear c31
           by_cases c32 : x5_1 < 0
           ·
            rw [if_pos c32] at H
            have c32b0 : decide (x5_1 < 0) = true := decide_eq_true c32
            clear c32
            have H' := Aside0.mk H
            clear H
            have p264 : 0 ≤ (x6_1 : Int) := of_decide_eq_true (by first | (with_reducible assumption) | assumption)
            have q264 : x6_1 < (l0.length : Int) := of_decide_eq_true (by first | (with_reducible assumption) | assumption)
            obtain ⟨ad264, e264, hx264_0, hx264_1⟩ := at_T25 HR0.out x6_1 p264 q264
            cases e264
            replace hx264_0 := pw_cell_below HB.out hx264_0
            replace hx264_1 := pw_cell_below HB.out hx264_1
            replace p264 := eq_true p264
            replace q264 := eq_true q264
            go_wp2_with (first | ((with_reducible refine gate_callee (f := 17) rfl ?_); refine goesL_ (some 49) rfl rfl Try.func17 (by kernel_rfl) rfl #[.agg #[.int .i64 ((rd_T25 l0 x6_1).f0), .int .i64 ((rd_T25 l0 x6_1).f1)]] rfl (by (try simp only [List.map_toArray, List.map_cons, List.map_nil]); first | done | rfl | (simp only [List.length_drop, List.length_take]; rfl)) ?_; (with_reducible refine (signalbenchref06_Valid.calls ((rd_T25 l0 x6_1).f0) ((rd_T25 l0 x6_1).f1) true _ A29.out).mono ?_); rintro e w33 ⟨rfl, hb⟩; refine ⟨_, rfl, ?_⟩; have n0_ := Aside0.mk (below_step (bs HB.out) hb); clear HB; have HB := n0_; clear n0_; (try clear hb); (try clear hb2); (try clear hk); (try clear hi); have p266 : 0 ≤ (x6_1 : Int) := of_decide_eq_true (by first | (with_reducible assumption) | assumption); have q266 : x6_1 < (l0.length : Int) := of_decide_eq_true (by first | (with_reducible assumption) | assumption); obtain ⟨ad266, e266, hx266_0, hx266_1⟩ := at_T25 HR0.out x6_1 p266 q266; obtain rfl : ad264 = ad266 := (by injection e266); replace hx266_0 := pw_cell_below HB.out hx266_0; replace hx266_1 := pw_cell_below HB.out hx266_1; replace p266 := eq_true p266; replace q266 := eq_true q266; have p267 : 0 ≤ (x6_1 : Int) := of_decide_eq_true (by first | (with_reducible assumption) | assumption); have q267 : x6_1 < (l0.length : Int) := of_decide_eq_true (by first | (with_reducible assumption) | assumption); obtain ⟨ad267, e267, hx267_0, hx267_1⟩ := at_T25 HR0.out x6_1 p267 q267; obtain rfl : ad264 = ad267 := (by injection e267); replace hx267_0 := pw_cell_below HB.out hx267_0; replace hx267_1 := pw_cell_below HB.out hx267_1; replace p267 := eq_true p267; replace q267 := eq_true q267))
            go_roundg kj3
            case measure => have := HK1.out; have := HJ3.out; omega
            case rel => exact ⟨((rd_T25 l0 x6_1).f1), (wrap64 (x6_1 + 1)), (by first | rfl | (simp; done) | (simp [*]; done)), (by first | rfl | (simp; done) | (simp [*]; done)), H', ⟨by have := HK1.out; have := HJ3.out; omega⟩, ⟨bs HB.out⟩⟩
           ·
            rw [if_neg c32] at H
            have c32b0 : decide (x5_1 < 0) = false := decide_eq_false c32
            clear c32
            by_cases c34 : ((rd_T25 l0 x6_1).f1) < x5_1
            ·
             rw [if_pos c34] at H
             have c34b0 : decide (((rd_T25 l0 x6_1).f1) < x5_1) = true := decide_eq_true c34
             clear c34
             have H' := Aside0.mk H
             clear H
             have p264 : 0 ≤ (x6_1 : Int) := of_decide_eq_true (by first | (with_reducible assumption) | assumption)
             have q264 : x6_1 < (l0.length : Int) := of_decide_eq_true (by first | (with_reducible assumption) | assumption)
             obtain ⟨ad264, e264, hx264_0, hx264_1⟩ := at_T25 HR0.out x6_1 p264 q264
             cases e264
             replace hx264_0 := pw_cell_below HB.out hx264_0
             replace hx264_1 := pw_cell_below HB.out hx264_1
             replace p264 := eq_true p264
             replace q264 := eq_true q264
             go_wp2_with (first | ((with_reducible refine gate_callee (f := 17) rfl ?_); refine goesL_ (some 49) rfl rfl Try.func17 (by kernel_rfl) rfl #[.agg #[.int .i64 ((rd_T25 l0 x6_1).f0), .int .i64 ((rd_T25 l0 x6_1).f1)]] rfl (by (try simp only [List.map_toArray, List.map_cons, List.map_nil]); first | done | rfl | (simp only [List.length_drop, List.length_take]; rfl)) ?_; (with_reducible refine (signalbenchref06_Valid.calls ((rd_T25 l0 x6_1).f0) ((rd_T25 l0 x6_1).f1) true _ A29.out).mono ?_); rintro e w35 ⟨rfl, hb⟩; refine ⟨_, rfl, ?_⟩; have n0_ := Aside0.mk (below_step (bs HB.out) hb); clear HB; have HB := n0_; clear n0_; (try clear hb); (try clear hb2); (try clear hk); (try clear hi); have p266 : 0 ≤ (x6_1 : Int) := of_decide_eq_true (by first | (with_reducible assumption) | assumption); have q266 : x6_1 < (l0.length : Int) := of_decide_eq_true (by first | (with_reducible assumption) | assumption); obtain ⟨ad266, e266, hx266_0, hx266_1⟩ := at_T25 HR0.out x6_1 p266 q266; obtain rfl : ad264 = ad266 := (by injection e266); replace hx266_0 := pw_cell_below HB.out hx266_0; replace hx266_1 := pw_cell_below HB.out hx266_1; replace p266 := eq_true p266; replace q266 := eq_true q266; have p268 : 0 ≤ (x6_1 : Int) := of_decide_eq_true (by first | (with_reducible assumption) | assumption); have q268 : x6_1 < (l0.length : Int) := of_decide_eq_true (by first | (with_reducible assumption) | assumption); obtain ⟨ad268, e268, hx268_0, hx268_1⟩ := at_T25 HR0.out x6_1 p268 q268; obtain rfl : ad264 = ad268 := (by injection e268); replace hx268_0 := pw_cell_below HB.out hx268_0; replace hx268_1 := pw_cell_below HB.out hx268_1; replace p268 := eq_true p268; replace q268 := eq_true q268; have p269 : 0 ≤ (x6_1 : Int) := of_decide_eq_true (by first | (with_reducible assumption) | assumption); have q269 : x6_1 < (l0.length : Int) := of_decide_eq_true (by first | (with_reducible assumption) | assumption); obtain ⟨ad269, e269, hx269_0, hx269_1⟩ := at_T25 HR0.out x6_1 p269 q269; obtain rfl : ad264 = ad269 := (by injection e269); replace hx269_0 := pw_cell_below HB.out hx269_0; replace hx269_1 := pw_cell_below HB.out hx269_1; replace p269 := eq_true p269; replace q269 := eq_true q269))
             go_roundg kj3
             case measure => have := HK1.out; have := HJ3.out; omega
             case rel => exact ⟨((rd_T25 l0 x6_1).f1), (wrap64 (x6_1 + 1)), (by first | rfl | (simp; done) | (simp [*]; done)), (by first | rfl | (simp; done) | (simp [*]; done)), H', ⟨by have := HK1.out; have := HJ3.out; omega⟩, ⟨bs HB.out⟩⟩
            ·
             rw [if_neg c34] at H
             have c34b0 : decide (((rd_T25 l0 x6_1).f1) < x5_1) = false := decide_eq_false c34
             clear c34
             have H' := Aside0.mk H
             clear H
             have p264 : 0 ≤ (x6_1 : Int) := of_decide_eq_true (by first | (with_reducible assumption) | assumption)
             have q264 : x6_1 < (l0.length : Int) := of_decide_eq_true (by first | (with_reducible assumption) | assumption)
             obtain ⟨ad264, e264, hx264_0, hx264_1⟩ := at_T25 HR0.out x6_1 p264 q264
             cases e264
             replace hx264_0 := pw_cell_below HB.out hx264_0
             replace hx264_1 := pw_cell_below HB.out hx264_1
             replace p264 := eq_true p264
             replace q264 := eq_true q264
             go_wp2_with (first | ((with_reducible refine gate_callee (f := 17) rfl ?_); refine goesL_ (some 49) rfl rfl Try.func17 (by kernel_rfl) rfl #[.agg #[.int .i64 ((rd_T25 l0 x6_1).f0), .int .i64 ((rd_T25 l0 x6_1).f1)]] rfl (by (try simp only [List.map_toArray, List.map_cons, List.map_nil]); first | done | rfl | (simp only [List.length_drop, List.length_take]; rfl)) ?_; (with_reducible refine (signalbenchref06_Valid.calls ((rd_T25 l0 x6_1).f0) ((rd_T25 l0 x6_1).f1) true _ A29.out).mono ?_); rintro e w36 ⟨rfl, hb⟩; refine ⟨_, rfl, ?_⟩; have n0_ := Aside0.mk (below_step (bs HB.out) hb); clear HB; have HB := n0_; clear n0_; (try clear hb); (try clear hb2); (try clear hk); (try clear hi); have p266 : 0 ≤ (x6_1 : Int) := of_decide_eq_true (by first | (with_reducible assumption) | assumption); have q266 : x6_1 < (l0.length : Int) := of_decide_eq_true (by first | (with_reducible assumption) | assumption); obtain ⟨ad266, e266, hx266_0, hx266_1⟩ := at_T25 HR0.out x6_1 p266 q266; obtain rfl : ad264 = ad266 := (by injection e266); replace hx266_0 := pw_cell_below HB.out hx266_0; replace hx266_1 := pw_cell_below HB.out hx266_1; replace p266 := eq_true p266; replace q266 := eq_true q266; have p268 : 0 ≤ (x6_1 : Int) := of_decide_eq_true (by first | (with_reducible assumption) | assumption); have q268 : x6_1 < (l0.length : Int) := of_decide_eq_true (by first | (with_reducible assumption) | assumption); obtain ⟨ad268, e268, hx268_0, hx268_1⟩ := at_T25 HR0.out x6_1 p268 q268; obtain rfl : ad264 = ad268 := (by injection e268); replace hx268_0 := pw_cell_below HB.out hx268_0; replace hx268_1 := pw_cell_below HB.out hx268_1; replace p268 := eq_true p268; replace q268 := eq_true q268))
             go_roundg kj3
             case measure => have := HK1.out; have := HJ3.out; omega
             case rel => exact ⟨(x5_1), (wrap64 (x6_1 + 1)), (by first | rfl | (simp; done) | (simp [*]; done)), (by first | rfl | (simp; done) | (simp [*]; done)), H', ⟨by have := HK1.out; have := HJ3.out; omega⟩, ⟨bs HB.out⟩⟩
          ·
           rw [if_neg c31] at H
           have c31b0 : decide (a1 < ((rd_T25 l0 x6_1).f1)) = false := decide_eq_false c31
           clear c31
           have H' := Aside0.mk H
           clear H
           have p264 : 0 ≤ (x6_1 : Int) := of_decide_eq_true (by first | (with_reducible assumption) | assumption)
           have q264 : x6_1 < (l0.length : Int) := of_decide_eq_true (by first | (with_reducible assumption) | assumption)
           obtain ⟨ad264, e264, hx264_0, hx264_1⟩ := at_T25 HR0.out x6_1 p264 q264
           cases e264
           replace hx264_0 := pw_cell_below HB.out hx264_0
           replace hx264_1 := pw_cell_below HB.out hx264_1
           replace p264 := eq_true p264
           replace q264 := eq_true q264
           go_wp2_with (first | ((with_reducible refine gate_callee (f := 17) rfl ?_); refine goesL_ (some 49) rfl rfl Try.func17 (by kernel_rfl) rfl #[.agg #[.int .i64 ((rd_T25 l0 x6_1).f0), .int .i64 ((rd_T25 l0 x6_1).f1)]] rfl (by (try simp only [List.map_toArray, List.map_cons, List.map_nil]); first | done | rfl | (simp only [List.length_drop, List.length_take]; rfl)) ?_; (with_reducible refine (signalbenchref06_Valid.calls ((rd_T25 l0 x6_1).f0) ((rd_T25 l0 x6_1).f1) true _ A29.out).mono ?_); rintro e w37 ⟨rfl, hb⟩; refine ⟨_, rfl, ?_⟩; have n0_ := Aside0.mk (below_step (bs HB.out) hb); clear HB; have HB := n0_; clear n0_; (try clear hb); (try clear hb2); (try clear hk); (try clear hi); have p266 : 0 ≤ (x6_1 : Int) := of_decide_eq_true (by first | (with_reducible assumption) | assumption); have q266 : x6_1 < (l0.length : Int) := of_decide_eq_true (by first | (with_reducible assumption) | assumption); obtain ⟨ad266, e266, hx266_0, hx266_1⟩ := at_T25 HR0.out x6_1 p266 q266; obtain rfl : ad264 = ad266 := (by injection e266); replace hx266_0 := pw_cell_below HB.out hx266_0; replace hx266_1 := pw_cell_below HB.out hx266_1; replace p266 := eq_true p266; replace q266 := eq_true q266))
           go_roundg kj3
           case measure => have := HK1.out; have := HJ3.out; omega
           case rel => exact ⟨(x5_1), (wrap64 (x6_1 + 1)), (by first | rfl | (simp; done) | (simp [*]; done)), (by first | rfl | (simp; done) | (simp [*]; done)), H', ⟨by have := HK1.out; have := HJ3.out; omega⟩, ⟨bs HB.out⟩⟩
         ·
          replace c30 := Bool.eq_false_iff.mpr c30
          subst c30
          have H1 : (signalbenchref06_next.l0 kj3 l0 a1 x5_1 (wrap64 (x6_1 + 1))) = some r := by rw [if_neg (show ¬ (false = true) by decide)] at H; exact H
          clear H
          have H := H1
          clear H1
          have H' := Aside0.mk H
          clear H
          have p264 : 0 ≤ (x6_1 : Int) := of_decide_eq_true (by first | (with_reducible assumption) | assumption)
          have q264 : x6_1 < (l0.length : Int) := of_decide_eq_true (by first | (with_reducible assumption) | assumption)
          obtain ⟨ad264, e264, hx264_0, hx264_1⟩ := at_T25 HR0.out x6_1 p264 q264
          cases e264
          replace hx264_0 := pw_cell_below HB.out hx264_0
          replace hx264_1 := pw_cell_below HB.out hx264_1
          replace p264 := eq_true p264
          replace q264 := eq_true q264
          go_wp2_with (first | ((with_reducible refine gate_callee (f := 17) rfl ?_); refine goesL_ (some 49) rfl rfl Try.func17 (by kernel_rfl) rfl #[.agg #[.int .i64 ((rd_T25 l0 x6_1).f0), .int .i64 ((rd_T25 l0 x6_1).f1)]] rfl (by (try simp only [List.map_toArray, List.map_cons, List.map_nil]); first | done | rfl | (simp only [List.length_drop, List.length_take]; rfl)) ?_; (with_reducible refine (signalbenchref06_Valid.calls ((rd_T25 l0 x6_1).f0) ((rd_T25 l0 x6_1).f1) false _ A29.out).mono ?_); rintro e w38 ⟨rfl, hb⟩; refine ⟨_, rfl, ?_⟩; have n0_ := Aside0.mk (below_step (bs HB.out) hb); clear HB; have HB := n0_; clear n0_; (try clear hb); (try clear hb2); (try clear hk); (try clear hi)))
          go_roundg kj3
          case measure => have := HK1.out; have := HJ3.out; omega
          case rel => exact ⟨(x5_1), (wrap64 (x6_1 + 1)), (by first | rfl | (simp; done) | (simp [*]; done)), (by first | rfl | (simp; done) | (simp [*]; done)), H', ⟨by have := HK1.out; have := HJ3.out; omega⟩, ⟨bs HB.out⟩⟩
        ·
         rw [if_neg c28] at H
         exact absurd H (by simp)
       ·
        rw [if_neg c27] at H
        exact absurd H (by simp)
   ·
    rw [if_neg c3] at H
    have c3b0 : decide (x6_1 < (l0.length : Int)) = false := decide_eq_false c3
    clear c3
    obtain rfl := Option.some.inj H
    go_wp2
    go_ret
    exact ⟨by first | rfl | (simp [errW_none, errW_some] <;> rfl) | (simp [*, errW_none, errW_some] <;> rfl), bs HB.out⟩

end Go.Proofs.Ytejmegaalfblmaa.H
