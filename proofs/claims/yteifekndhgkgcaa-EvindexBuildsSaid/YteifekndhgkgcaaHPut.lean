/- ref46.put: what the code computes; no condition. -/
import Derived.Test.YteifekndhgkgcaaH7
namespace Go.Proofs.Yteifekndhgkgcaa.H
open Go.RowKit Go.Proofs.YteifekndhgkgcaaW.PrintWords Go.Proofs.YteifekndhgkgcaaW.PrintLast Go.Proofs.YteifekndhgkgcaaW.PrintMore
attribute [local go_sem] max2_int min2_int max_two min_two max_three min_three max_four min_four
set_option linter.unusedVariables false
set_option linter.unusedSimpArgs false
theorem info43p : (Try.prog.info? 43).map (fun i => (i.zero, i.size, i.bytes)) = some (some (.agg #[(.int .i64 0), (.int .i64 0), (.slice none 0 0)]), 3, 40) := by kernel_rfl
theorem fk_elt {w W : World} {P0 ok : Nat → Prop} {A : Option Addr} {n : Nat} {xs : List Int} (h : Kd.F (Kd.int .i64) w P0 A n xs) (hB : Below w.heap.size w W) (hok : ∀ k, P0 k → k < w.heap.size → ok k) : Kd.F (Kd.int .i64) W ok A n xs := Kd.F_mono (Kd.F_below (Kd.F_bound h) hB) (fun k hk => hok k hk.1 hk.2)
/-! ### signalbenchref46_put: function 26 -/
mutual
def signalbenchref46_put.l0 : Nat → List (S43) → Int → Int → Int → List (S43) → Bool → Int → Option ((List (S43)))
 | 0, _, _, _, _, _, _, _ => none
 | k + 1, x0, x1, x2, x3, x9, x10, x11 => if x11 < (x0.length : Int) then (if 0 ≤ x11 then (if x10 = true then (signalbenchref46_put.j1 k x0 x1 x2 x3 x9 x10 x11 false ((rd_T43 x0 x11).f0) ((rd_T43 x0 x11).f1) ((rd_T43 x0 x11).f2)) else (if ((rd_T43 x0 x11).f0) = x1 then (signalbenchref46_put.j1 k x0 x1 x2 x3 x9 x10 x11 (((rd_T43 x0 x11).f1) == x2) ((rd_T43 x0 x11).f0) ((rd_T43 x0 x11).f1) ((rd_T43 x0 x11).f2)) else (signalbenchref46_put.j1 k x0 x1 x2 x3 x9 x10 x11 false ((rd_T43 x0 x11).f0) ((rd_T43 x0 x11).f1) ((rd_T43 x0 x11).f2)))) else (none)) else (if x10 = true then (some x9) else (if x9.length < 3518437208883 then (some (x9 ++ [(⟨x1, x2, (([x3] : List Int))⟩ : S43)])) else (none)))
def signalbenchref46_put.j1 : Nat → List (S43) → Int → Int → Int → List (S43) → Bool → Int → Bool → Int → Int → List Int → Option ((List (S43)))
 | 0, _, _, _, _, _, _, _, _, _, _, _ => none
 | k + 1, x0, x1, x2, x3, x9, x10, x11, x37, x113000, x113001, x113002 => if x37 = true then ((some (([] : List Int) : List Int)).bind fun y113 => (if y113.length + x113002.length < 17592186044416 then (if (y113 ++ x113002).length < 17592186044416 then (if x9.length < 3518437208883 then (signalbenchref46_put.l0 k x0 x1 x2 x3 (x9 ++ [(⟨x113000, x113001, (y113 ++ x113002) ++ [x3]⟩ : S43)]) true (wrap64 (x11 + 1))) else (none)) else (none)) else (none))) else (if x10 = true then (if x9.length < 3518437208883 then (signalbenchref46_put.l0 k x0 x1 x2 x3 (x9 ++ [(⟨x113000, x113001, x113002⟩ : S43)]) x10 (wrap64 (x11 + 1))) else (none)) else ((signalbenchref46_before.f x113000 x113001 x113002 x1 x2).bind fun t128 => (if t128 = true then (if x9.length < 3518437208883 then (signalbenchref46_put.l0 k x0 x1 x2 x3 (x9 ++ [(⟨x113000, x113001, x113002⟩ : S43)]) x10 (wrap64 (x11 + 1))) else (none)) else (if x9.length < 3518437208883 then ((some (x9 ++ [(⟨x1, x2, (([x3] : List Int))⟩ : S43)] : List (S43))).bind fun y135 => (if y135.length < 3518437208883 then (signalbenchref46_put.l0 k x0 x1 x2 x3 (y135 ++ [(⟨x113000, x113001, x113002⟩ : S43)]) true (wrap64 (x11 + 1))) else (none))) else (none)))))
end
def signalbenchref46_put.f (k : Nat) (l0 : List (S43)) (a1 : Int) (a2 : Int) (a3 : Int) : Option ((List (S43))) := signalbenchref46_put.l0 k l0 a1 a2 a3 (([] : List (S43))) false 0
theorem signalbenchref46_put.mono_l : ∀ k, (∀ y0 y1 y2 y3 y4 y5 y6, LeO (signalbenchref46_put.l0 k y0 y1 y2 y3 y4 y5 y6) (signalbenchref46_put.l0 (k + 1) y0 y1 y2 y3 y4 y5 y6)) ∧ (∀ y0 y1 y2 y3 y4 y5 y6 y7 y8 y9 y10, LeO (signalbenchref46_put.j1 k y0 y1 y2 y3 y4 y5 y6 y7 y8 y9 y10) (signalbenchref46_put.j1 (k + 1) y0 y1 y2 y3 y4 y5 y6 y7 y8 y9 y10))
 | 0 => ⟨fun _ _ _ _ _ _ _ r h => by simp [signalbenchref46_put.l0] at h, fun _ _ _ _ _ _ _ _ _ _ _ r h => by simp [signalbenchref46_put.j1] at h⟩
 | k + 1 => by
  obtain ⟨ih0, ih1⟩ := signalbenchref46_put.mono_l k
  refine ⟨?_, ?_⟩
  ·
   intro y0 y1 y2 y3 y4 y5 y6
   unfold signalbenchref46_put.l0
   repeat' first
   | (with_reducible exact ih0 _ _ _ _ _ _ _)
   | (with_reducible exact ih1 _ _ _ _ _ _ _ _ _ _ _)
   | (with_reducible exact LeO.refl _)
   | (with_reducible exact LeO.none _)
   | (with_reducible refine LeO.ite ?_ ?_)
   | (with_reducible refine LeO.bind ?_ (fun _ => ?_))
   | exact ih0 _ _ _ _ _ _ _
   | exact ih1 _ _ _ _ _ _ _ _ _ _ _
   | exact LeO.none _
   | refine LeO.ite ?_ ?_
   | refine LeO.bind ?_ (fun _ => ?_)
  ·
   intro y0 y1 y2 y3 y4 y5 y6 y7 y8 y9 y10
   unfold signalbenchref46_put.j1
   repeat' first
   | (with_reducible exact ih0 _ _ _ _ _ _ _)
   | (with_reducible exact ih1 _ _ _ _ _ _ _ _ _ _ _)
   | (with_reducible exact LeO.refl _)
   | (with_reducible exact LeO.none _)
   | (with_reducible refine LeO.ite ?_ ?_)
   | (with_reducible refine LeO.bind ?_ (fun _ => ?_))
   | exact ih0 _ _ _ _ _ _ _
   | exact ih1 _ _ _ _ _ _ _ _ _ _ _
   | exact LeO.none _
   | refine LeO.ite ?_ ?_
   | refine LeO.bind ?_ (fun _ => ?_)
theorem signalbenchref46_put.mono : ∀ a0 a1 a2 a3 k, LeO (signalbenchref46_put.f k a0 a1 a2 a3) (signalbenchref46_put.f (k + 1) a0 a1 a2 a3) := by
 intro a0 a1 a2 a3 k
 obtain ⟨ih0, ih1⟩ := signalbenchref46_put.mono_l k
 unfold signalbenchref46_put.f
 repeat' first
   | (with_reducible exact ih0 _ _ _ _ _ _ _)
   | (with_reducible exact ih1 _ _ _ _ _ _ _ _ _ _ _)
   | (with_reducible exact LeO.refl _)
   | (with_reducible exact LeO.none _)
   | (with_reducible refine LeO.ite ?_ ?_)
   | (with_reducible refine LeO.bind ?_ (fun _ => ?_))
   | exact ih0 _ _ _ _ _ _ _
   | exact ih1 _ _ _ _ _ _ _ _ _ _ _
   | exact LeO.none _
   | refine LeO.ite ?_ ?_
   | refine LeO.bind ?_ (fun _ => ?_)
set_option maxHeartbeats 8000000 in
set_option maxRecDepth 100000 in
theorem signalbenchref46_put.calls (k : Nat) (P0_ : Nat → Prop) (A0 : Option Addr) (c0 : Nat) (l0 : List (S43)) (a1 : Int) (a2 : Int) (a3 : Int) (r : List (S43)) (w : World) (hs0 : Kd.V k43 43 w w.heap.size (fun k_ => P0_ k_) (.slice A0 l0.length c0) l0) (h : signalbenchref46_put.f k l0 a1 a2 a3 = some r) :
  Calls Try.prog 26 #[.slice A0 l0.length c0, .int .i64 a1, .int .i64 a2, .int .i64 a3] w fun e w' => ∃ v0_ : Value, e = .returned (v0_) ∧ Kd.N k43 43 w' w.heap.size (fun k_ => (P0_ k_ ∨ w.heap.size ≤ k_)) v0_ r ∧ Below w.heap.size w w' := by
 have hu43 := Try.underlying43
 have HV0 := Aside0.mk hs0
 have hr0 := (Kd.V_reads' hs0).2.2
 have hc0 := (Kd.V_reads' hs0).2.1
 have HR0 := Aside0.mk hr0
 have HC0 := Aside0.mk hc0
 clear hr0 hc0 hs0
 have HB := Aside0.mk (Below.refl w.heap.size w)
 have H : (signalbenchref46_put.l0 k l0 a1 a2 a3 (([] : List (S43))) false 0) = some r := h
 clear h
 obtain ⟨y102, hy102⟩ : ∃ y_ : List (S43), y_ = (([] : List (S43))) := ⟨_, rfl⟩
 replace H : (signalbenchref46_put.l0 k l0 a1 a2 a3 y102 false 0) = some r := by first | (rw [hy102]; with_reducible exact H) | (have H2_ := (Option.bind_some _ _).symm.trans H; rw [hy102]; with_reducible exact H2_) | (have H2_ := (Option.bind_some _ _).symm.trans H; with_reducible exact H2_) | with_reducible exact H | (rw [hy102]; exact H) | exact H
 have Ny102 := Aside0.mk hy102
 clear hy102
 have H' := Aside0.mk H
 clear H
 go_enter Try.func26, Try.ntmps26
 go_wp2_with (first | ((with_reducible refine gate_dst (N := 13) rfl ?_); refine Kd.N_lit k43 _ 43 ?hg (N' := 13) ?hd (xs := ([] : List (S43))) (inner := []) (ok := (fun k_ => (P0_ k_ ∨ w.heap.size ≤ k_))) (okp := (fun k_ => (P0_ k_ ∨ w.heap.size ≤ k_))) ?hr ?hp (fun _ hk => hk) ((show ∀ k_, w.heap.size ≤ k_ → (fun k_ => (P0_ k_ ∨ w.heap.size ≤ k_)) k_ from fun k_ hk => (Or.inr (Nat.le_trans (below_size (bs HB.out)) hk))) _ (Nat.le_refl _)) (Below.refl _ _) (Nat.le_refl _) (by simp) ?_; (case hd => rfl); (case hg => rfl); (case hr => first | (go_simp; done) | (go_simp; rfl)); (case hp => exact (Reps.none _ _)); intro v103 w5 ho6 hb hg_ hnew_; clear hg_ hnew_; (first | rw [← Ny102.out] at ho6 | (simp only [Int.reduceToNat] at ho6; rw [← Ny102.out] at ho6)); have n0_ := Aside0.mk (Kd.N_lower ho6 (below_size (bs HB.out))); have n1_ := Aside0.mk (below_step (bs HB.out) hb); clear HB; have HO104 := n0_; have HB := n1_; clear n0_ n1_; clear hb ho6))
 go_loopg [9, 10, 11] k (fun kq v9 v10 v11 w' => ∃ (x9_1 : List (S43)) (x10_1 : Bool) (x11_1 : Int), v10 = .bool x10_1 ∧ v11 = .int .i64 x11_1 ∧ Aside0 (signalbenchref46_put.l0 kq l0 a1 a2 a3 x9_1 x10_1 x11_1 = some r) ∧ Aside0 (kq ≤ k) ∧ Aside0 (Kd.N k43 43 w' w.heap.size (fun k_ => (P0_ k_ ∨ w.heap.size ≤ k_)) v9 x9_1) ∧ Aside0 (Below w.heap.size w w'))
 case atStart => exact ⟨(y102), (false), (0), (by first | rfl | (simp; done) | (simp [*]; done)), (by first | rfl | (simp; done) | (simp [*]; done)), H', ⟨Nat.le_refl _⟩, ⟨by (with_reducible repeat (first | apply Kd.N_alloc | apply Kd.N_drewN | apply Kd.N_drew)); exact HO104.out⟩, ⟨bs HB.out⟩⟩
 case round =>
  clear H'
  try clear c2
  try clear p2
  obtain ⟨x9_1, x10_1, x11_1, rfl, rfl, HA, HK1, HO_9, HB⟩ := hrel
  cases gk with
  | zero => exact absurd HA.out (by simp [signalbenchref46_put.l0])
  | succ k1 =>
   have H := HA.out
   clear HA
   simp only [signalbenchref46_put.l0] at H
   by_cases c7 : x11_1 < (l0.length : Int)
   ·
    rw [if_pos c7] at H
    have c7b0 : decide (x11_1 < (l0.length : Int)) = true := decide_eq_true c7
    clear c7
    by_cases c8 : 0 ≤ x11_1
    ·
     rw [if_pos c8] at H
     have c8b0 : decide (0 ≤ x11_1) = true := decide_eq_true c8
     clear c8
     have HC9 := Aside0.mk H
     clear H
     have p111 : 0 ≤ (x11_1 : Int) := of_decide_eq_true (by first | (with_reducible assumption) | assumption)
     have q111 : x11_1 < (l0.length : Int) := of_decide_eq_true (by first | (with_reducible assumption) | assumption)
     obtain ⟨ad111, A111_2, c111_2, e111, hx111_0, hx111_1, hx111_2, hl111_2, hi111_2⟩ := at_T43 HR0.out x11_1 p111 q111
     cases e111
     obtain ⟨ce_, hce_, hMe_, hcc_⟩ := Kd.V_get HV0.out z43 x11_1 p111 q111
     obtain ⟨ua_, uc_, rfl, hul_, ge_⟩ := k43_openF hMe_
     have hv_ := hcc_ 2 _ rfl
     rw [add_field _ _ 2 (by omega)] at hv_
     replace hv_ := Option.some.inj (hv_.symm.trans hx111_2)
     injection hv_ with hva_ hvn_ hvc_
     rw [hva_] at ge_
     have HF111 := Aside0.mk (show Kd.F (Kd.int .i64) w (fun k_ => P0_ k_) A111_2 ((rd_T43 l0 x11_1).f2).length ((rd_T43 l0 x11_1).f2) from ge_)
     clear ge_ hva_ hvn_ hvc_ hul_ hcc_ hce_ hMe_
     replace hx111_0 := pw_cell_below HB.out hx111_0
     replace hx111_1 := pw_cell_below HB.out hx111_1
     replace hx111_2 := pw_cell_below HB.out hx111_2
     have HR111_2 := Aside0.mk hi111_2
     have HC111_2 := Aside0.mk hl111_2
     clear hi111_2 hl111_2
     replace p111 := eq_true p111
     replace q111 := eq_true q111
     go_upto_region 6 with (first | ((with_reducible refine gate_dst (N := 12) rfl ?_); refine box_event ?hg (N := 12) ?hd (cs := #[.int .i64 0, .int .i64 0, .slice none 0 0]) (t := 43) ?hr ?_; (case hd => rfl); (case hg => rfl); (case hr => first | (go_simp; done) | (go_simp; rfl)); intro gb112 hg w10 hbox hb; have n0_ := Aside0.mk (Kd.N_below (Kd.N_elderB (by (with_reducible repeat (first | apply Kd.N_alloc | apply Kd.N_drewN | apply Kd.N_drew)); exact HO_9.out) gb112 (Nat.le_of_eq hg.symm)) hb); have n1_ := Aside0.mk (below_step (bs HB.out) hb); have n2_ := Aside0.mk (hbox); have n3_ := Aside0.mk ((by rw [hg]; exact (below_size (bs HB.out)) : w.heap.size ≤ gb112)); have n4_ := n3_; clear HO_9; clear HB; have HO_9 := n0_; have HB := n1_; have BK112 := n2_; have GW112 := n3_; have GE112 := n4_; clear n0_ n1_ n2_ n3_ n4_; clear hb hbox hg; obtain ⟨hcz11_0, hcz11_1, hcz11_2⟩ := bc3 BK112.out; obtain ⟨hfz11_0, hfz11_1, hfz11_2⟩ := bf3 BK112.out))
     (try simp only [Act.put, List.setIfInBounds_toArray, List.set_cons_zero, List.set_cons_succ])
     go_cut [37] (fun v37 wc => ∃ (kq : Nat) (x37_8 : Bool), v37 = .bool x37_8 ∧ Aside0 (signalbenchref46_put.j1 kq l0 a1 a2 a3 x9_1 x10_1 x11_1 x37_8 ((rd_T43 l0 x11_1).f0) ((rd_T43 l0 x11_1).f1) ((rd_T43 l0 x11_1).f2) = some r) ∧ Aside0 (kq ≤ k1) ∧ Aside0 (Kd.N k43 43 wc w.heap.size (fun k_ => (P0_ k_ ∨ w.heap.size ≤ k_) ∧ k_ ≠ gb112) u9 x9_1) ∧ Aside0 (wc.heap[gb112]? = some (.cells #[.int .i64 ((rd_T43 l0 x11_1).f0), .int .i64 ((rd_T43 l0 x11_1).f1), (.slice A111_2 ((rd_T43 l0 x11_1).f2).length c111_2)] 43 (0, 0))) ∧ Aside0 (Below w.heap.size w wc))
     case first =>
      have H := HC9.out
      clear HC9
      by_cases c12 : x10_1 = true
      ·
       subst c12
       have H1 : (signalbenchref46_put.j1 k1 l0 a1 a2 a3 x9_1 true x11_1 false ((rd_T43 l0 x11_1).f0) ((rd_T43 l0 x11_1).f1) ((rd_T43 l0 x11_1).f2)) = some r := by rw [if_pos rfl] at H; exact H
       clear H
       have H := H1
       clear H1
       have H' := Aside0.mk H
       clear H
       go_wp2
       go_meet
       case rel => exact ⟨_, (false), (by first | rfl | (simp; done) | (simp [*]; done)), H', ⟨by have := HK1.out; first | omega | exact Nat.le_refl _⟩, ⟨by (with_reducible repeat (first | apply Kd.N_alloc | apply Kd.N_drewN | apply Kd.N_drew)); exact Kd.N_mono (Kd.N_far (p := ⟨gb112, 2, none⟩) (Kd.N_far (p := ⟨gb112, 1, none⟩) (Kd.N_far (p := ⟨gb112, 0, none⟩) (Kd.N_mono HO_9.out (fun k_ hk => (⟨hk, hk.2⟩ : _ ∧ k_ ≠ gb112))) (fun _ hk => hk.2) (.int .i64 ((rd_T43 l0 x11_1).f0))) (fun _ hk => hk.2) (.int .i64 ((rd_T43 l0 x11_1).f1))) (fun _ hk => hk.2) (.slice A111_2 ((rd_T43 l0 x11_1).f2).length c111_2)) (fun _ hk => ⟨hk.1.1, hk.1.2⟩)⟩, ⟨by exact pt3 (bg BK112.out)⟩, ⟨bs HB.out⟩⟩
      ·
       replace c12 := Bool.eq_false_iff.mpr c12
       subst c12
       have H1 : (if ((rd_T43 l0 x11_1).f0) = a1 then (signalbenchref46_put.j1 k1 l0 a1 a2 a3 x9_1 false x11_1 (((rd_T43 l0 x11_1).f1) == a2) ((rd_T43 l0 x11_1).f0) ((rd_T43 l0 x11_1).f1) ((rd_T43 l0 x11_1).f2)) else (signalbenchref46_put.j1 k1 l0 a1 a2 a3 x9_1 false x11_1 false ((rd_T43 l0 x11_1).f0) ((rd_T43 l0 x11_1).f1) ((rd_T43 l0 x11_1).f2))) = some r := by rw [if_neg (show ¬ (false = true) by decide)] at H; exact H
       clear H
       have H := H1
       clear H1
       by_cases c13 : ((rd_T43 l0 x11_1).f0) = a1
       ·
        rw [if_pos c13] at H
        have c13b0 : (((rd_T43 l0 x11_1).f0) == a1) = true := beq_iff_eq.mpr c13
        have c13b1 : (((rd_T43 l0 x11_1).f0) != a1) = false := bne_eq_false_iff_eq.mpr c13
        clear c13
        (first | rw [c13b0] | (simp only [i64_w, i32_w]; rw [c13b0]) | skip)
        have H' := Aside0.mk H
        clear H
        obtain ⟨hcz14_0, hcz14_1, hcz14_2⟩ := bc3 BK112.out
        obtain ⟨hfz14_0, hfz14_1, hfz14_2⟩ := bf3 BK112.out
        go_wp2
        go_meet
        case rel => exact ⟨_, ((((rd_T43 l0 x11_1).f1) == a2)), (by first | rfl | (simp; done) | (simp [*]; done)), H', ⟨by have := HK1.out; first | omega | exact Nat.le_refl _⟩, ⟨by (with_reducible repeat (first | apply Kd.N_alloc | apply Kd.N_drewN | apply Kd.N_drew)); exact Kd.N_mono (Kd.N_far (p := ⟨gb112, 2, none⟩) (Kd.N_far (p := ⟨gb112, 1, none⟩) (Kd.N_far (p := ⟨gb112, 0, none⟩) (Kd.N_mono HO_9.out (fun k_ hk => (⟨hk, hk.2⟩ : _ ∧ k_ ≠ gb112))) (fun _ hk => hk.2) (.int .i64 ((rd_T43 l0 x11_1).f0))) (fun _ hk => hk.2) (.int .i64 ((rd_T43 l0 x11_1).f1))) (fun _ hk => hk.2) (.slice A111_2 ((rd_T43 l0 x11_1).f2).length c111_2)) (fun _ hk => ⟨hk.1.1, hk.1.2⟩)⟩, ⟨by exact pt3 (bg BK112.out)⟩, ⟨bs HB.out⟩⟩
       ·
        rw [if_neg c13] at H
        have c13b0 : (((rd_T43 l0 x11_1).f0) == a1) = false := beq_eq_false_iff_ne.mpr c13
        have c13b1 : (((rd_T43 l0 x11_1).f0) != a1) = true := bne_iff_ne.mpr c13
        (first | rw [c13b0] | (simp only [i64_w, i32_w]; rw [c13b0]) | skip)
        have H' := Aside0.mk H
        clear H
        obtain ⟨hcz15_0, hcz15_1, hcz15_2⟩ := bc3 BK112.out
        obtain ⟨hfz15_0, hfz15_1, hfz15_2⟩ := bf3 BK112.out
        go_wp2
        go_meet
        case rel => exact ⟨_, (false), (by first | rfl | (simp; done) | (simp [*]; done)), H', ⟨by have := HK1.out; first | omega | exact Nat.le_refl _⟩, ⟨by (with_reducible repeat (first | apply Kd.N_alloc | apply Kd.N_drewN | apply Kd.N_drew)); exact Kd.N_mono (Kd.N_far (p := ⟨gb112, 2, none⟩) (Kd.N_far (p := ⟨gb112, 1, none⟩) (Kd.N_far (p := ⟨gb112, 0, none⟩) (Kd.N_mono HO_9.out (fun k_ hk => (⟨hk, hk.2⟩ : _ ∧ k_ ≠ gb112))) (fun _ hk => hk.2) (.int .i64 ((rd_T43 l0 x11_1).f0))) (fun _ hk => hk.2) (.int .i64 ((rd_T43 l0 x11_1).f1))) (fun _ hk => hk.2) (.slice A111_2 ((rd_T43 l0 x11_1).f2).length c111_2)) (fun _ hk => ⟨hk.1.1, hk.1.2⟩)⟩, ⟨by exact pt3 (bg BK112.out)⟩, ⟨bs HB.out⟩⟩
     case rest =>
      clear HC9
      try clear c1
      try clear p1
      try clear q1
      try clear hx1
      try clear c2
      try clear p2
      try clear c7
      try clear c7b0
      try clear c8
      try clear c8b0
      try clear c11
      try clear p11
      try clear q11
      try clear hx11
      try clear c12
      try clear c13
      try clear c13b0
      try clear c13b1
      try clear hcz11_0 hcz11_1 hcz11_2
      try clear hcz14_0 hcz14_1 hcz14_2
      try clear hcz15_0 hcz15_1 hcz15_2
      try clear hfz11_0 hfz11_1 hfz11_2
      try clear hfz14_0 hfz14_1 hfz14_2
      try clear hfz15_0 hfz15_1 hfz15_2
      try clear hx111_0
      try clear hx111_1
      try clear hx111_2
      try clear p111
      try clear p2
      try clear q111
      obtain ⟨kq, x37_8, rfl, HA, HJ8, HO_9, BK112, HB⟩ := hcut
      cases kq with
      | zero => exact absurd HA.out (by simp [signalbenchref46_put.j1])
      | succ kj8 =>
       have H := HA.out
       clear HA
       simp only [signalbenchref46_put.j1] at H
       by_cases c16 : x37_8 = true
       ·
        subst c16
        have H1 : ((some (([] : List Int) : List Int)).bind fun y113 => (if y113.length + ((rd_T43 l0 x11_1).f2).length < 17592186044416 then (if (y113 ++ ((rd_T43 l0 x11_1).f2)).length < 17592186044416 then (if x9_1.length < 3518437208883 then (signalbenchref46_put.l0 kj8 l0 a1 a2 a3 (x9_1 ++ [(⟨((rd_T43 l0 x11_1).f0), ((rd_T43 l0 x11_1).f1), (y113 ++ ((rd_T43 l0 x11_1).f2)) ++ [a3]⟩ : S43)]) true (wrap64 (x11_1 + 1))) else (none)) else (none)) else (none))) = some r := by rw [if_pos rfl] at H; exact H
        clear H
        have H := H1
        clear H1
        obtain ⟨y113, hy113⟩ : ∃ y_ : List Int, y_ = (([] : List Int)) := ⟨_, rfl⟩
        replace H : (if y113.length + ((rd_T43 l0 x11_1).f2).length < 17592186044416 then (if (y113 ++ ((rd_T43 l0 x11_1).f2)).length < 17592186044416 then (if x9_1.length < 3518437208883 then (signalbenchref46_put.l0 kj8 l0 a1 a2 a3 (x9_1 ++ [(⟨((rd_T43 l0 x11_1).f0), ((rd_T43 l0 x11_1).f1), (y113 ++ ((rd_T43 l0 x11_1).f2)) ++ [a3]⟩ : S43)]) true (wrap64 (x11_1 + 1))) else (none)) else (none)) else (none)) = some r := by first | (rw [hy113]; with_reducible exact H) | (have H2_ := (Option.bind_some _ _).symm.trans H; rw [hy113]; with_reducible exact H2_) | (have H2_ := (Option.bind_some _ _).symm.trans H; with_reducible exact H2_) | with_reducible exact H | (rw [hy113]; exact H) | exact H
        have Ny113 := Aside0.mk hy113
        clear hy113
        by_cases c17 : y113.length + ((rd_T43 l0 x11_1).f2).length < 17592186044416
        ·
         rw [if_pos c17] at H
         have LMc17 := Aside0.mk c17
         clear c17
         obtain ⟨y116, hy116⟩ : ∃ y_ : List Int, y_ = (y113 ++ ((rd_T43 l0 x11_1).f2)) := ⟨_, rfl⟩
         replace H : (if y116.length < 17592186044416 then (if x9_1.length < 3518437208883 then (signalbenchref46_put.l0 kj8 l0 a1 a2 a3 (x9_1 ++ [(⟨((rd_T43 l0 x11_1).f0), ((rd_T43 l0 x11_1).f1), y116 ++ [a3]⟩ : S43)]) true (wrap64 (x11_1 + 1))) else (none)) else (none)) = some r := by first | (rw [hy116]; with_reducible exact H) | (have H2_ := (Option.bind_some _ _).symm.trans H; rw [hy116]; with_reducible exact H2_) | (have H2_ := (Option.bind_some _ _).symm.trans H; with_reducible exact H2_) | with_reducible exact H | (rw [hy116]; exact H) | exact H
         have Ny116 := Aside0.mk hy116
         clear hy116
         by_cases c18 : y116.length < 17592186044416
         ·
          rw [if_pos c18] at H
          have LMc18 := Aside0.mk c18
          clear c18
          obtain ⟨y119, hy119⟩ : ∃ y_ : List Int, y_ = (y116 ++ [a3]) := ⟨_, rfl⟩
          replace H : (if x9_1.length < 3518437208883 then (signalbenchref46_put.l0 kj8 l0 a1 a2 a3 (x9_1 ++ [(⟨((rd_T43 l0 x11_1).f0), ((rd_T43 l0 x11_1).f1), y119⟩ : S43)]) true (wrap64 (x11_1 + 1))) else (none)) = some r := by first | (rw [hy119]; with_reducible exact H) | (have H2_ := (Option.bind_some _ _).symm.trans H; rw [hy119]; with_reducible exact H2_) | (have H2_ := (Option.bind_some _ _).symm.trans H; with_reducible exact H2_) | with_reducible exact H | (rw [hy119]; exact H) | exact H
          have Ny119 := Aside0.mk hy119
          clear hy119
          by_cases c19 : x9_1.length < 3518437208883
          ·
           rw [if_pos c19] at H
           have LMc19 := Aside0.mk c19
           clear c19
           obtain ⟨y122, hy122⟩ : ∃ y_ : List (S43), y_ = (x9_1 ++ [(⟨((rd_T43 l0 x11_1).f0), ((rd_T43 l0 x11_1).f1), y119⟩ : S43)]) := ⟨_, rfl⟩
           replace H : (signalbenchref46_put.l0 kj8 l0 a1 a2 a3 y122 true (wrap64 (x11_1 + 1))) = some r := by first | (rw [hy122]; with_reducible exact H) | (have H2_ := (Option.bind_some _ _).symm.trans H; rw [hy122]; with_reducible exact H2_) | (have H2_ := (Option.bind_some _ _).symm.trans H; with_reducible exact H2_) | with_reducible exact H | (rw [hy122]; exact H) | exact H
           have Ny122 := Aside0.mk hy122
           clear hy122
           have H' := Aside0.mk H
           clear H
           go_wp2_with (first | ((with_reducible refine gate_dst (N := 38) rfl ?_); refine Kd.R_lit (Kd.int .i64) _ 3 ?hg (N := 38) ?hd (xs := ([] : List Int)) (inner := []) (ok := fun _ => True) (okp := fun _ => True) ?hr ?hp (fun _ hk => hk) trivial (Below.refl _ _) (Nat.le_refl _) (by simp) ?_; (case hd => rfl); (case hg => rfl); (case hr => first | (go_simp; done) | (go_simp; rfl)); (case hp => exact (Reps.none _ _)); intro v114 w20 ho21 hb hg_ hnew_; clear hg_ hnew_; (first | rw [← Ny113.out] at ho21 | (simp only [Int.reduceToNat] at ho21; rw [← Ny113.out] at ho21)); have n0_ := Aside0.mk (Kd.N_elder' (by (with_reducible repeat (first | apply Kd.N_alloc | apply Kd.N_drewN | apply Kd.N_drew)); exact HO_9.out) (Kd.R_base ho21) hb); have n1_ := Aside0.mk (Kd.R_lower (Kd.R_newM (M := fun k_ => (P0_ k_ ∨ w.heap.size ≤ k_)) ho21 (below_size (bs HB.out)) (fun k_ h_ => Or.inr h_)) (below_size (bs HB.out))); have n2_ := Aside0.mk (blk_below (bg BK112.out) hb); have n3_ := Aside0.mk (below_step (bs HB.out) hb); clear HO_9; clear BK112; clear HB; have HO_9 := n0_; have HO115 := n1_; have BK112 := n2_; have HB := n3_; clear n0_ n1_ n2_ n3_; clear hb ho21; obtain ⟨hcz22_0, hcz22_1, hcz22_2⟩ := bc3 BK112.out; obtain ⟨hfz22_0, hfz22_1, hfz22_2⟩ := bf3 BK112.out) | ((with_reducible refine gate_builtin (b := .append) (xs := #[.tmp 38, .tmp 40]) rfl ?_); at_builtin; refine Kd.R_append_rows (Kd.int .i64) (w0 := w) w.heap.size rfl (.tmp 38) (.tmp 40) 36 3 (.int .i64 0) 8 rfl Try.underlying36 info3 rfl (by decide) (by omega) v114 y113 ((rd_T43 l0 x11_1).f2) _ _ _ (fun k_ => (P0_ k_ ∨ w.heap.size ≤ k_)) (fun _ => False) rfl rfl ?aO ?aR (fun _ _ h => h) (fun _ h => h.elim) ?aF ?aB ?aS ?aL ?_; (case aR => repeat (first | exact (Kd.C_below HR111_2.out HB.out) | (with_reducible refine Kd.C_alloc ?_ _) | (with_reducible refine Kd.C_drewN ?_ _) | (with_reducible refine Kd.C_drew ?_))); (case aB => exact (bs HB.out)); (case aF => exact (fun k_ hk => (Or.inr (Nat.le_trans (below_size (bs HB.out)) hk)))); (case aO => exact (by (with_reducible repeat (first | apply Kd.R_alloc | apply Kd.R_drewN | apply Kd.R_drew)); exact Kd.R_mono HO115.out (fun _ hk => hk.1))); (case aS => exact (below_size (bs HB.out))); (case aL => have := LMc17.out; omega); intro v117 w23 ho hb hg hat; rw [← Ny116.out] at ho; have n0_ := Aside0.mk (Kd.N_afterv (ok := (fun k_ => (P0_ k_ ∨ w.heap.size ≤ k_) ∧ k_ ≠ gb112)) (by (with_reducible repeat (first | apply Kd.N_alloc | apply Kd.N_drewN | apply Kd.N_drew)); exact HO_9.out) hg hat); have n1_ := Aside0.mk (blk_grown (g := gb112) (o := .cells #[.int .i64 ((rd_T43 l0 x11_1).f0), .int .i64 ((rd_T43 l0 x11_1).f1), .slice A111_2 ((rd_T43 l0 x11_1).f2).length c111_2] 43 (0, 0)) (bg BK112.out) hg (Kd.R_ne HO115.out BK112.out (by decide))); have n2_ := Aside0.mk (hb); have n3_ := Aside0.mk (ho); clear HO_9; clear BK112; clear HB; clear HO115; have HO_9 := n0_; have BK112 := n1_; have HB := n2_; have HO118 := n3_; clear n0_ n1_ n2_ n3_; clear ho hb hg hat) | ((with_reducible refine gate_builtin (b := .append) (xs := #[.tmp 41, .tmp 43]) rfl ?_); at_builtin; refine Kd.R_append (Kd.int .i64) (w0 := w) w.heap.size rfl (.tmp 41) (.tmp 43) 36 3 (.int .i64 0) 8 rfl Try.underlying36 info3 rfl (by decide) (by omega) v117 y116 a3 [.int .i64 a3] (fun k_ => (P0_ k_ ∨ w.heap.size ≤ k_)) (fun _ => False) rfl rfl ?aP (fun _ hk => hk.elim) ?aF ?aO ?aB ?aS ?aL ?_; (case aP => exact rfl); (case aB => exact (bs HB.out)); (case aF => exact (fun k_ hk => (Or.inr (Nat.le_trans (below_size (bs HB.out)) hk)))); (case aO => exact (rq HO118.out)); (case aS => exact (below_size (bs HB.out))); (case aL => have := LMc18.out; omega); intro v120 w24 ho hb hg hat; rw [← Ny119.out] at ho; have n0_ := Aside0.mk (Kd.N_afterv (ok := (fun k_ => (P0_ k_ ∨ w.heap.size ≤ k_) ∧ k_ ≠ gb112)) (by (with_reducible repeat (first | apply Kd.N_alloc | apply Kd.N_drewN | apply Kd.N_drew)); exact HO_9.out) hg hat); have n1_ := Aside0.mk (blk_grown (g := gb112) (o := .cells #[.int .i64 ((rd_T43 l0 x11_1).f0), .int .i64 ((rd_T43 l0 x11_1).f1), .slice A111_2 ((rd_T43 l0 x11_1).f2).length c111_2] 43 (0, 0)) (bg BK112.out) hg (Kd.R_ne HO118.out BK112.out (by decide))); have n2_ := Aside0.mk (hb); have n3_ := Aside0.mk (ho); clear HO_9; clear BK112; clear HB; clear HO118; have HO_9 := n0_; have BK112 := n1_; have HB := n2_; have HO121 := n3_; clear n0_ n1_ n2_ n3_; clear ho hb hg hat; obtain ⟨Ao25, co25, eo25⟩ := Kd.R_slice HO121.out; subst eo25; obtain ⟨hcz26_0, hcz26_1, hcz26_2⟩ := bc3 BK112.out; obtain ⟨hfz26_0, hfz26_1, hfz26_2⟩ := bf3 BK112.out) | ((with_reducible refine gate_builtin (b := .append) (xs := #[.tmp 63, .tmp 65]) rfl ?_); at_builtin; refine Kd.N_append k43 (w0 := w) w.heap.size rfl (.tmp 63) (.tmp 65) 25 43 (.agg #[(.int .i64 0), (.int .i64 0), (.slice none 0 0)]) 40 rfl Try.underlying25 info43p rfl (by decide) (by omega) u9 x9_1 (⟨((rd_T43 l0 x11_1).f0), ((rd_T43 l0 x11_1).f1), y119⟩ : S43) [.int .i64 ((rd_T43 l0 x11_1).f0), .int .i64 ((rd_T43 l0 x11_1).f1), .slice Ao25 y119.length co25] (fun k_ => (P0_ k_ ∨ w.heap.size ≤ k_) ∧ k_ ≠ gb112) (fun k_ => ((fun k_ => (P0_ k_ ∨ w.heap.size ≤ k_) ∧ k_ ≠ gb112)) k_ ∧ some k_ ≠ (u9 : Value).ownBlock) rfl (by first | (go_simp; done) | (go_simp; rfl)) ?aP (fun _ hk => hk) ?aF ?aO ?aB ?aS ?aL ?_; (case aP => exact (k43_mkF _ _ (⟨((rd_T43 l0 x11_1).f0), ((rd_T43 l0 x11_1).f1), y119⟩ : S43) (Kd.R_reads' HO121.out).2.1 (Kd.R_F (Kd.R_mono (Kd.R_apart' (Kd.R_mono (ok' := fun k_ => (P0_ k_ ∨ w.heap.size ≤ k_) ∧ k_ ≠ gb112) (Kd.R_far (p := ⟨gb112, 2, none⟩) (Kd.R_types HO121.out BK112.out (by decide)) (fun _ hk => hk.2) (.slice Ao25 y119.length co25)) (fun _ h_ => h_)) (Kd.N_typed (Kd.N_mono (ok' := fun k_ => (P0_ k_ ∨ w.heap.size ≤ k_) ∧ k_ ≠ gb112) (Kd.N_far (p := ⟨gb112, 2, none⟩) (Kd.N_mono HO_9.out (fun k_ hk => (⟨hk, hk.1.2⟩ : _ ∧ k_ ≠ gb112))) (fun _ hk => hk.2) (.slice Ao25 y119.length co25)) (fun _ hk => ⟨hk.1.1.1, hk.2⟩))) (by decide)) (fun _ h_ => h_))))); (case aB => exact (bs HB.out)); (case aF => exact (fun k_ hk => ⟨(Or.inr (Nat.le_trans (below_size (bs HB.out)) hk)), Kd.freshB (g := gb112) (blk_put (cs := #[.int .i64 ((rd_T43 l0 x11_1).f0), .int .i64 ((rd_T43 l0 x11_1).f1), .slice A111_2 ((rd_T43 l0 x11_1).f2).length c111_2]) (bg BK112.out) 2 _ rfl) k_ hk⟩)); (case aO => exact (by (with_reducible repeat (first | apply Kd.N_alloc | apply Kd.N_drewN | apply Kd.N_drew)); exact (Kd.N_mono (ok' := fun k_ => (P0_ k_ ∨ w.heap.size ≤ k_) ∧ k_ ≠ gb112) (Kd.N_far (p := ⟨gb112, 2, none⟩) (Kd.N_mono HO_9.out (fun k_ hk => (⟨hk, hk.1.2⟩ : _ ∧ k_ ≠ gb112))) (fun _ hk => hk.2) (.slice Ao25 y119.length co25)) (fun _ hk => ⟨hk.1.1.1, hk.2⟩)))); (case aS => exact (below_size (bs HB.out))); (case aL => have := LMc19.out; omega); intro v123 w27 ho hb hg hat; rw [← Ny122.out] at ho; have n2_ := Aside0.mk (hb); have n3_ := Aside0.mk (ho); clear BK112; clear HO121; clear HB; clear HO_9; have HB := n2_; have HO124 := n3_; clear n2_ n3_; clear ho hb hg hat))
           go_roundg kj8
           case measure => have := HK1.out; have := HJ8.out; omega
           case rel => exact ⟨(y122), (true), (wrap64 (x11_1 + 1)), (by first | rfl | (simp; done) | (simp [*]; done)), (by first | rfl | (simp; done) | (simp [*]; done)), H', ⟨by have := HK1.out; have := HJ8.out; omega⟩, ⟨by (with_reducible repeat (first | apply Kd.N_alloc | apply Kd.N_drewN | apply Kd.N_drew)); exact Kd.N_mono HO124.out (fun _ hk => hk.1)⟩, ⟨bs HB.out⟩⟩
          ·
           rw [if_neg c19] at H
           exact absurd H (by simp)
         ·
          rw [if_neg c18] at H
          exact absurd H (by simp)
        ·
         rw [if_neg c17] at H
         exact absurd H (by simp)
       ·
        replace c16 := Bool.eq_false_iff.mpr c16
        subst c16
        have H1 : (if x10_1 = true then (if x9_1.length < 3518437208883 then (signalbenchref46_put.l0 kj8 l0 a1 a2 a3 (x9_1 ++ [(⟨((rd_T43 l0 x11_1).f0), ((rd_T43 l0 x11_1).f1), ((rd_T43 l0 x11_1).f2)⟩ : S43)]) x10_1 (wrap64 (x11_1 + 1))) else (none)) else ((signalbenchref46_before.f ((rd_T43 l0 x11_1).f0) ((rd_T43 l0 x11_1).f1) ((rd_T43 l0 x11_1).f2) a1 a2).bind fun t128 => (if t128 = true then (if x9_1.length < 3518437208883 then (signalbenchref46_put.l0 kj8 l0 a1 a2 a3 (x9_1 ++ [(⟨((rd_T43 l0 x11_1).f0), ((rd_T43 l0 x11_1).f1), ((rd_T43 l0 x11_1).f2)⟩ : S43)]) x10_1 (wrap64 (x11_1 + 1))) else (none)) else (if x9_1.length < 3518437208883 then ((some (x9_1 ++ [(⟨a1, a2, (([a3] : List Int))⟩ : S43)] : List (S43))).bind fun y135 => (if y135.length < 3518437208883 then (signalbenchref46_put.l0 kj8 l0 a1 a2 a3 (y135 ++ [(⟨((rd_T43 l0 x11_1).f0), ((rd_T43 l0 x11_1).f1), ((rd_T43 l0 x11_1).f2)⟩ : S43)]) true (wrap64 (x11_1 + 1))) else (none))) else (none))))) = some r := by rw [if_neg (show ¬ (false = true) by decide)] at H; exact H
        clear H
        have H := H1
        clear H1
        by_cases c28 : x10_1 = true
        ·
         subst c28
         have H1 : (if x9_1.length < 3518437208883 then (signalbenchref46_put.l0 kj8 l0 a1 a2 a3 (x9_1 ++ [(⟨((rd_T43 l0 x11_1).f0), ((rd_T43 l0 x11_1).f1), ((rd_T43 l0 x11_1).f2)⟩ : S43)]) true (wrap64 (x11_1 + 1))) else (none)) = some r := by rw [if_pos rfl] at H; exact H
         clear H
         have H := H1
         clear H1
         by_cases c29 : x9_1.length < 3518437208883
         ·
          rw [if_pos c29] at H
          have LMc29 := Aside0.mk c29
          clear c29
          obtain ⟨y125, hy125⟩ : ∃ y_ : List (S43), y_ = (x9_1 ++ [(⟨((rd_T43 l0 x11_1).f0), ((rd_T43 l0 x11_1).f1), ((rd_T43 l0 x11_1).f2)⟩ : S43)]) := ⟨_, rfl⟩
          replace H : (signalbenchref46_put.l0 kj8 l0 a1 a2 a3 y125 true (wrap64 (x11_1 + 1))) = some r := by first | (rw [hy125]; with_reducible exact H) | (have H2_ := (Option.bind_some _ _).symm.trans H; rw [hy125]; with_reducible exact H2_) | (have H2_ := (Option.bind_some _ _).symm.trans H; with_reducible exact H2_) | with_reducible exact H | (rw [hy125]; exact H) | exact H
          have Ny125 := Aside0.mk hy125
          clear hy125
          have H' := Aside0.mk H
          clear H
          obtain ⟨hcyD_0, hcyD_1, hcyD_2⟩ := bc3 BK112.out
          go_wp2_with (first | ((with_reducible refine gate_builtin (b := .append) (xs := #[.tmp 63, .tmp 65]) rfl ?_); at_builtin; refine Kd.N_append k43 (w0 := w) w.heap.size rfl (.tmp 63) (.tmp 65) 25 43 (.agg #[(.int .i64 0), (.int .i64 0), (.slice none 0 0)]) 40 rfl Try.underlying25 info43p rfl (by decide) (by omega) u9 x9_1 (⟨((rd_T43 l0 x11_1).f0), ((rd_T43 l0 x11_1).f1), ((rd_T43 l0 x11_1).f2)⟩ : S43) [.int .i64 ((rd_T43 l0 x11_1).f0), .int .i64 ((rd_T43 l0 x11_1).f1), .slice A111_2 ((rd_T43 l0 x11_1).f2).length c111_2] (fun k_ => (P0_ k_ ∨ w.heap.size ≤ k_) ∧ k_ ≠ gb112) (fun k_ => ((fun k_ => (P0_ k_ ∨ w.heap.size ≤ k_) ∧ k_ ≠ gb112)) k_ ∧ some k_ ≠ (u9 : Value).ownBlock) rfl rfl ?aP (fun _ hk => hk) ?aF ?aO ?aB ?aS ?aL ?_; (case aP => exact (k43_mkF _ _ (⟨((rd_T43 l0 x11_1).f0), ((rd_T43 l0 x11_1).f1), ((rd_T43 l0 x11_1).f2)⟩ : S43) HC111_2.out (fk_elt HF111.out (bs HB.out) (fun k_ hk hlt => ⟨⟨Or.inl hk, fun e_ => by have := GW112.out; omega⟩, fun e_ => by have := Kd.N_base HO_9.out _ e_.symm; omega⟩)))); (case aB => exact (bs HB.out)); (case aF => exact (fun k_ hk => ⟨(Or.inr (Nat.le_trans (below_size (bs HB.out)) hk)), Kd.freshB (g := gb112) (o := .cells #[.int .i64 ((rd_T43 l0 x11_1).f0), .int .i64 ((rd_T43 l0 x11_1).f1), .slice A111_2 ((rd_T43 l0 x11_1).f2).length c111_2] 43 (0, 0)) (bg BK112.out) k_ hk⟩)); (case aO => exact (by (with_reducible repeat (first | apply Kd.N_alloc | apply Kd.N_drewN | apply Kd.N_drew)); exact HO_9.out)); (case aS => exact (below_size (bs HB.out))); (case aL => have := LMc29.out; omega); intro v126 w30 ho hb hg hat; rw [← Ny125.out] at ho; have n0_ := Aside0.mk (blk_grown (g := gb112) (o := .cells #[.int .i64 ((rd_T43 l0 x11_1).f0), .int .i64 ((rd_T43 l0 x11_1).f1), .slice A111_2 ((rd_T43 l0 x11_1).f2).length c111_2] 43 (0, 0)) (bg BK112.out) hg (Kd.N_away HO_9.out (fun _ hk => hk.2))); have n1_ := Aside0.mk (hb); have n2_ := Aside0.mk (ho); clear BK112; clear HB; clear HO_9; have BK112 := n0_; have HB := n1_; have HO127 := n2_; clear n0_ n1_ n2_; clear ho hb hg hat))
          go_roundg kj8
          case measure => have := HK1.out; have := HJ8.out; omega
          case rel => exact ⟨(y125), (true), (wrap64 (x11_1 + 1)), (by first | rfl | (simp; done) | (simp [*]; done)), (by first | rfl | (simp; done) | (simp [*]; done)), H', ⟨by have := HK1.out; have := HJ8.out; omega⟩, ⟨by (with_reducible repeat (first | apply Kd.N_alloc | apply Kd.N_drewN | apply Kd.N_drew)); exact Kd.N_mono HO127.out (fun _ hk => hk.1)⟩, ⟨bs HB.out⟩⟩
         ·
          rw [if_neg c29] at H
          exact absurd H (by simp)
        ·
         replace c28 := Bool.eq_false_iff.mpr c28
         subst c28
         have H1 : ((signalbenchref46_before.f ((rd_T43 l0 x11_1).f0) ((rd_T43 l0 x11_1).f1) ((rd_T43 l0 x11_1).f2) a1 a2).bind fun t128 => (if t128 = true then (if x9_1.length < 3518437208883 then (signalbenchref46_put.l0 kj8 l0 a1 a2 a3 (x9_1 ++ [(⟨((rd_T43 l0 x11_1).f0), ((rd_T43 l0 x11_1).f1), ((rd_T43 l0 x11_1).f2)⟩ : S43)]) false (wrap64 (x11_1 + 1))) else (none)) else (if x9_1.length < 3518437208883 then ((some (x9_1 ++ [(⟨a1, a2, (([a3] : List Int))⟩ : S43)] : List (S43))).bind fun y135 => (if y135.length < 3518437208883 then (signalbenchref46_put.l0 kj8 l0 a1 a2 a3 (y135 ++ [(⟨((rd_T43 l0 x11_1).f0), ((rd_T43 l0 x11_1).f1), ((rd_T43 l0 x11_1).f2)⟩ : S43)]) true (wrap64 (x11_1 + 1))) else (none))) else (none)))) = some r := by rw [if_neg (show ¬ (false = true) by decide)] at H; exact H
         clear H
         have H := H1
         clear H1
         replace H := Option.bind_eq_some_iff.mp H
         obtain ⟨t128, A310, H⟩ := H
         replace H : (if t128 = true then (if x9_1.length < 3518437208883 then (signalbenchref46_put.l0 kj8 l0 a1 a2 a3 (x9_1 ++ [(⟨((rd_T43 l0 x11_1).f0), ((rd_T43 l0 x11_1).f1), ((rd_T43 l0 x11_1).f2)⟩ : S43)]) false (wrap64 (x11_1 + 1))) else (none)) else (if x9_1.length < 3518437208883 then ((some (x9_1 ++ [(⟨a1, a2, (([a3] : List Int))⟩ : S43)] : List (S43))).bind fun y135 => (if y135.length < 3518437208883 then (signalbenchref46_put.l0 kj8 l0 a1 a2 a3 (y135 ++ [(⟨((rd_T43 l0 x11_1).f0), ((rd_T43 l0 x11_1).f1), ((rd_T43 l0 x11_1).f2)⟩ : S43)]) true (wrap64 (x11_1 + 1))) else (none))) else (none))) = some r := H
         have A31 := Aside0.mk A310
         clear A310
         by_cases c32 : t128 = true
         ·
          subst c32
          have H1 : (if x9_1.length < 3518437208883 then (signalbenchref46_put.l0 kj8 l0 a1 a2 a3 (x9_1 ++ [(⟨((rd_T43 l0 x11_1).f0), ((rd_T43 l0 x11_1).f1), ((rd_T43 l0 x11_1).f2)⟩ : S43)]) false (wrap64 (x11_1 + 1))) else (none)) = some r := by rw [if_pos rfl] at H; exact H
          clear H
          have H := H1
          clear H1
          by_cases c33 : x9_1.length < 3518437208883
          ·
           rw [if_pos c33] at H
           have LMc33 := Aside0.mk c33
           clear c33
           obtain ⟨y129, hy129⟩ : ∃ y_ : List (S43), y_ = (x9_1 ++ [(⟨((rd_T43 l0 x11_1).f0), ((rd_T43 l0 x11_1).f1), ((rd_T43 l0 x11_1).f2)⟩ : S43)]) := ⟨_, rfl⟩
           replace H : (signalbenchref46_put.l0 kj8 l0 a1 a2 a3 y129 false (wrap64 (x11_1 + 1))) = some r := by first | (rw [hy129]; with_reducible exact H) | (have H2_ := (Option.bind_some _ _).symm.trans H; rw [hy129]; with_reducible exact H2_) | (have H2_ := (Option.bind_some _ _).symm.trans H; with_reducible exact H2_) | with_reducible exact H | (rw [hy129]; exact H) | exact H
           have Ny129 := Aside0.mk hy129
           clear hy129
           have H' := Aside0.mk H
           clear H
           obtain ⟨hcz34_0, hcz34_1, hcz34_2⟩ := bc3 BK112.out
           obtain ⟨hfz34_0, hfz34_1, hfz34_2⟩ := bf3 BK112.out
           go_wp2_with (first | (go_at_call 27; (with_reducible refine (signalbenchref46_before.calls ((rd_T43 l0 x11_1).f0) ((rd_T43 l0 x11_1).f1) _ _ ((rd_T43 l0 x11_1).f2) a1 a2 true _ ?side1 ?side2 A31.out).mono ?_); (case side1 => repeat (first | exact (Kd.C_below HR111_2.out HB.out) | (with_reducible refine Kd.C_alloc ?_ _) | (with_reducible refine Kd.C_drewN ?_ _) | (with_reducible refine Kd.C_drew ?_))); (case side2 => exact HC111_2.out); rintro e w35 ⟨rfl, hb⟩; have n0_ := Aside0.mk (Kd.N_below (by (with_reducible repeat (first | apply Kd.N_alloc | apply Kd.N_drewN | apply Kd.N_drew)); exact HO_9.out) hb); have n1_ := Aside0.mk (blk_below (bg BK112.out) hb); have n2_ := Aside0.mk (below_step (bs HB.out) hb); clear HO_9; clear BK112; clear HB; have HO_9 := n0_; have BK112 := n1_; have HB := n2_; clear n0_ n1_ n2_; (try clear hb); (try clear hb2); (try clear hk); (try clear hi); obtain ⟨hcyA_0, hcyA_1, hcyA_2⟩ := bc3 BK112.out) | ((with_reducible refine gate_builtin (b := .append) (xs := #[.tmp 63, .tmp 65]) rfl ?_); at_builtin; refine Kd.N_append k43 (w0 := w) w.heap.size rfl (.tmp 63) (.tmp 65) 25 43 (.agg #[(.int .i64 0), (.int .i64 0), (.slice none 0 0)]) 40 rfl Try.underlying25 info43p rfl (by decide) (by omega) u9 x9_1 (⟨((rd_T43 l0 x11_1).f0), ((rd_T43 l0 x11_1).f1), ((rd_T43 l0 x11_1).f2)⟩ : S43) [.int .i64 ((rd_T43 l0 x11_1).f0), .int .i64 ((rd_T43 l0 x11_1).f1), .slice A111_2 ((rd_T43 l0 x11_1).f2).length c111_2] (fun k_ => (P0_ k_ ∨ w.heap.size ≤ k_) ∧ k_ ≠ gb112) (fun k_ => ((fun k_ => (P0_ k_ ∨ w.heap.size ≤ k_) ∧ k_ ≠ gb112)) k_ ∧ some k_ ≠ (u9 : Value).ownBlock) rfl rfl ?aP (fun _ hk => hk) ?aF ?aO ?aB ?aS ?aL ?_; (case aP => exact (k43_mkF _ _ (⟨((rd_T43 l0 x11_1).f0), ((rd_T43 l0 x11_1).f1), ((rd_T43 l0 x11_1).f2)⟩ : S43) HC111_2.out (fk_elt HF111.out (bs HB.out) (fun k_ hk hlt => ⟨⟨Or.inl hk, fun e_ => by have := GW112.out; omega⟩, fun e_ => by have := Kd.N_base HO_9.out _ e_.symm; omega⟩)))); (case aB => exact (bs HB.out)); (case aF => exact (fun k_ hk => ⟨(Or.inr (Nat.le_trans (below_size (bs HB.out)) hk)), Kd.freshB (g := gb112) (o := .cells #[.int .i64 ((rd_T43 l0 x11_1).f0), .int .i64 ((rd_T43 l0 x11_1).f1), .slice A111_2 ((rd_T43 l0 x11_1).f2).length c111_2] 43 (0, 0)) (bg BK112.out) k_ hk⟩)); (case aO => exact (by (with_reducible repeat (first | apply Kd.N_alloc | apply Kd.N_drewN | apply Kd.N_drew)); exact HO_9.out)); (case aS => exact (below_size (bs HB.out))); (case aL => have := LMc33.out; omega); intro v130 w36 ho hb hg hat; rw [← Ny129.out] at ho; have n0_ := Aside0.mk (blk_grown (g := gb112) (o := .cells #[.int .i64 ((rd_T43 l0 x11_1).f0), .int .i64 ((rd_T43 l0 x11_1).f1), .slice A111_2 ((rd_T43 l0 x11_1).f2).length c111_2] 43 (0, 0)) (bg BK112.out) hg (Kd.N_away HO_9.out (fun _ hk => hk.2))); have n1_ := Aside0.mk (hb); have n2_ := Aside0.mk (ho); clear BK112; clear HB; clear HO_9; have BK112 := n0_; have HB := n1_; have HO131 := n2_; clear n0_ n1_ n2_; clear ho hb hg hat))
           go_roundg kj8
           case measure => have := HK1.out; have := HJ8.out; omega
           case rel => exact ⟨(y129), (false), (wrap64 (x11_1 + 1)), (by first | rfl | (simp; done) | (simp [*]; done)), (by first | rfl | (simp; done) | (simp [*]; done)), H', ⟨by have := HK1.out; have := HJ8.out; omega⟩, ⟨by (with_reducible repeat (first | apply Kd.N_alloc | apply Kd.N_drewN | apply Kd.N_drew)); exact Kd.N_mono HO131.out (fun _ hk => hk.1)⟩, ⟨bs HB.out⟩⟩
          ·
           rw [if_neg c33] at H
           exact absurd H (by simp)
         ·
          replace c32 := Bool.eq_false_iff.mpr c32
          subst c32
          have H1 : (if x9_1.length < 3518437208883 then ((some (x9_1 ++ [(⟨a1, a2, (([a3] : List Int))⟩ : S43)] : List (S43))).bind fun y135 => (if y135.length < 3518437208883 then (signalbenchref46_put.l0 kj8 l0 a1 a2 a3 (y135 ++ [(⟨((rd_T43 l0 x11_1).f0), ((rd_T43 l0 x11_1).f1), ((rd_T43 l0 x11_1).f2)⟩ : S43)]) true (wrap64 (x11_1 + 1))) else (none))) else (none)) = some r := by rw [if_neg (show ¬ (false = true) by decide)] at H; exact H
          clear H
          have H := H1
          clear H1
          obtain ⟨y132, hy132⟩ : ∃ y_ : List Int, y_ = (([a3] : List Int)) := ⟨_, rfl⟩
          replace H : (if x9_1.length < 3518437208883 then ((some (x9_1 ++ [(⟨a1, a2, y132⟩ : S43)] : List (S43))).bind fun y135 => (if y135.length < 3518437208883 then (signalbenchref46_put.l0 kj8 l0 a1 a2 a3 (y135 ++ [(⟨((rd_T43 l0 x11_1).f0), ((rd_T43 l0 x11_1).f1), ((rd_T43 l0 x11_1).f2)⟩ : S43)]) true (wrap64 (x11_1 + 1))) else (none))) else (none)) = some r := by first | (rw [hy132]; with_reducible exact H) | (have H2_ := (Option.bind_some _ _).symm.trans H; rw [hy132]; with_reducible exact H2_) | (have H2_ := (Option.bind_some _ _).symm.trans H; with_reducible exact H2_) | with_reducible exact H | (rw [hy132]; exact H) | exact H
          have Ny132 := Aside0.mk hy132
          clear hy132
          by_cases c37 : x9_1.length < 3518437208883
          ·
           rw [if_pos c37] at H
           have LMc37 := Aside0.mk c37
           clear c37
           obtain ⟨y135, hy135⟩ : ∃ y_ : List (S43), y_ = (x9_1 ++ [(⟨a1, a2, y132⟩ : S43)]) := ⟨_, rfl⟩
           replace H : (if y135.length < 3518437208883 then (signalbenchref46_put.l0 kj8 l0 a1 a2 a3 (y135 ++ [(⟨((rd_T43 l0 x11_1).f0), ((rd_T43 l0 x11_1).f1), ((rd_T43 l0 x11_1).f2)⟩ : S43)]) true (wrap64 (x11_1 + 1))) else (none)) = some r := by first | (rw [hy135]; with_reducible exact H) | (have H2_ := (Option.bind_some _ _).symm.trans H; rw [hy135]; with_reducible exact H2_) | (have H2_ := (Option.bind_some _ _).symm.trans H; with_reducible exact H2_) | with_reducible exact H | (rw [hy135]; exact H) | exact H
           have Ny135 := Aside0.mk hy135
           clear hy135
           by_cases c38 : y135.length < 3518437208883
           ·
            rw [if_pos c38] at H
            have LMc38 := Aside0.mk c38
            clear c38
            obtain ⟨y138, hy138⟩ : ∃ y_ : List (S43), y_ = (y135 ++ [(⟨((rd_T43 l0 x11_1).f0), ((rd_T43 l0 x11_1).f1), ((rd_T43 l0 x11_1).f2)⟩ : S43)]) := ⟨_, rfl⟩
            replace H : (signalbenchref46_put.l0 kj8 l0 a1 a2 a3 y138 true (wrap64 (x11_1 + 1))) = some r := by first | (rw [hy138]; with_reducible exact H) | (have H2_ := (Option.bind_some _ _).symm.trans H; rw [hy138]; with_reducible exact H2_) | (have H2_ := (Option.bind_some _ _).symm.trans H; with_reducible exact H2_) | with_reducible exact H | (rw [hy138]; exact H) | exact H
            have Ny138 := Aside0.mk hy138
            clear hy138
            have H' := Aside0.mk H
            clear H
            obtain ⟨hcz39_0, hcz39_1, hcz39_2⟩ := bc3 BK112.out
            obtain ⟨hfz39_0, hfz39_1, hfz39_2⟩ := bf3 BK112.out
            go_wp2_with (first | (go_at_call 27; (with_reducible refine (signalbenchref46_before.calls ((rd_T43 l0 x11_1).f0) ((rd_T43 l0 x11_1).f1) _ _ ((rd_T43 l0 x11_1).f2) a1 a2 false _ ?side1 ?side2 A31.out).mono ?_); (case side1 => repeat (first | exact (Kd.C_below HR111_2.out HB.out) | (with_reducible refine Kd.C_alloc ?_ _) | (with_reducible refine Kd.C_drewN ?_ _) | (with_reducible refine Kd.C_drew ?_))); (case side2 => exact HC111_2.out); rintro e w40 ⟨rfl, hb⟩; have n0_ := Aside0.mk (Kd.N_below (by (with_reducible repeat (first | apply Kd.N_alloc | apply Kd.N_drewN | apply Kd.N_drew)); exact HO_9.out) hb); have n1_ := Aside0.mk (blk_below (bg BK112.out) hb); have n2_ := Aside0.mk (below_step (bs HB.out) hb); clear HO_9; clear BK112; clear HB; have HO_9 := n0_; have BK112 := n1_; have HB := n2_; clear n0_ n1_ n2_; (try clear hb); (try clear hb2); (try clear hk); (try clear hi); obtain ⟨hcyA_0, hcyA_1, hcyA_2⟩ := bc3 BK112.out) | ((with_reducible refine gate_dst (N := 59) rfl ?_); refine Kd.R_lit (Kd.int .i64) _ 3 ?hg (N := 59) ?hd (xs := ([a3] : List Int)) (inner := [.int .i64 a3]) (ok := fun _ => True) (okp := fun _ => True) ?hr ?hp (fun _ hk => hk) trivial (Below.refl _ _) (Nat.le_refl _) (by simp) ?_; (case hd => rfl); (case hg => rfl); (case hr => first | (go_simp; done) | (go_simp; rfl)); (case hp => exact (Reps.one (show Kd.M (Kd.int .i64) _ _ _ a3 [.int .i64 a3] from rfl) (Reps.none _ _))); intro v133 w41 ho42 hb hg_ hnew_; clear hg_ hnew_; (first | rw [← Ny132.out] at ho42 | (simp only [Int.reduceToNat] at ho42; rw [← Ny132.out] at ho42)); have n0_ := Aside0.mk (Kd.N_elder' (by (with_reducible repeat (first | apply Kd.N_alloc | apply Kd.N_drewN | apply Kd.N_drew)); exact HO_9.out) (Kd.R_base ho42) hb); have n1_ := Aside0.mk (Kd.R_lower (Kd.R_newM (M := fun k_ => (P0_ k_ ∨ w.heap.size ≤ k_)) ho42 (below_size (bs HB.out)) (fun k_ h_ => Or.inr h_)) (below_size (bs HB.out))); have n2_ := Aside0.mk (blk_below (bg BK112.out) hb); have n3_ := Aside0.mk (below_step (bs HB.out) hb); clear HO_9; clear BK112; clear HB; have HO_9 := n0_; have HO134 := n1_; have BK112 := n2_; have HB := n3_; clear n0_ n1_ n2_ n3_; clear hb ho42; obtain ⟨Ao43, co43, eo43⟩ := Kd.R_slice HO134.out; subst eo43; obtain ⟨hcyB_0, hcyB_1, hcyB_2⟩ := bc3 BK112.out) | ((with_reducible refine gate_builtin (b := .append) (xs := #[.tmp 55, .tmp 61]) rfl ?_); at_builtin; refine Kd.N_append k43 (w0 := w) w.heap.size rfl (.tmp 55) (.tmp 61) 25 43 (.agg #[(.int .i64 0), (.int .i64 0), (.slice none 0 0)]) 40 rfl Try.underlying25 info43p rfl (by decide) (by omega) u9 x9_1 (⟨a1, a2, y132⟩ : S43) [.int .i64 a1, .int .i64 a2, .slice Ao43 y132.length co43] (fun k_ => (P0_ k_ ∨ w.heap.size ≤ k_) ∧ k_ ≠ gb112) (fun k_ => ((fun k_ => (P0_ k_ ∨ w.heap.size ≤ k_) ∧ k_ ≠ gb112)) k_ ∧ some k_ ≠ (u9 : Value).ownBlock) rfl rfl ?aP (fun _ hk => hk) ?aF ?aO ?aB ?aS ?aL ?_; (case aP => exact (k43_mkF _ _ (⟨a1, a2, y132⟩ : S43) (Kd.R_reads' (Kd.R_mono (ok' := (fun k_ => ((fun k_ => (P0_ k_ ∨ w.heap.size ≤ k_) ∧ k_ ≠ gb112)) k_ ∧ some k_ ≠ (u9 : Value).ownBlock)) (Kd.R_types (Kd.R_apart' (HO134.out) (Kd.N_typed HO_9.out) (by decide)) BK112.out (by decide)) (fun k_ hk => ⟨⟨hk.1.1.1, hk.2⟩, hk.1.2⟩))).2.1 (Kd.R_F (Kd.R_mono (ok' := (fun k_ => ((fun k_ => (P0_ k_ ∨ w.heap.size ≤ k_) ∧ k_ ≠ gb112)) k_ ∧ some k_ ≠ (u9 : Value).ownBlock)) (Kd.R_types (Kd.R_apart' (HO134.out) (Kd.N_typed HO_9.out) (by decide)) BK112.out (by decide)) (fun k_ hk => ⟨⟨hk.1.1.1, hk.2⟩, hk.1.2⟩))))); (case aB => exact (bs HB.out)); (case aF => exact (fun k_ hk => ⟨(Or.inr (Nat.le_trans (below_size (bs HB.out)) hk)), Kd.freshB (g := gb112) (o := .cells #[.int .i64 ((rd_T43 l0 x11_1).f0), .int .i64 ((rd_T43 l0 x11_1).f1), .slice A111_2 ((rd_T43 l0 x11_1).f2).length c111_2] 43 (0, 0)) (bg BK112.out) k_ hk⟩)); (case aO => exact (by (with_reducible repeat (first | apply Kd.N_alloc | apply Kd.N_drewN | apply Kd.N_drew)); exact Kd.N_mono HO_9.out (fun _ hk => ⟨hk.1.1, hk.1.2⟩))); (case aS => exact (below_size (bs HB.out))); (case aL => have := LMc37.out; omega); intro v136 w44 ho hb hg hat; rw [← Ny135.out] at ho; have n0_ := Aside0.mk (blk_grown (g := gb112) (o := .cells #[.int .i64 ((rd_T43 l0 x11_1).f0), .int .i64 ((rd_T43 l0 x11_1).f1), .slice A111_2 ((rd_T43 l0 x11_1).f2).length c111_2] 43 (0, 0)) (bg BK112.out) hg (Kd.N_away HO_9.out (fun _ hk => hk.1.2))); have n1_ := Aside0.mk (hb); have n2_ := Aside0.mk (ho); clear BK112; clear HB; clear HO_9; clear HO134; have BK112 := n0_; have HB := n1_; have HO137 := n2_; clear n0_ n1_ n2_; clear ho hb hg hat; obtain ⟨hcyC_0, hcyC_1, hcyC_2⟩ := bc3 BK112.out) | ((with_reducible refine gate_builtin (b := .append) (xs := #[.tmp 63, .tmp 65]) rfl ?_); at_builtin; refine Kd.N_append k43 (w0 := w) w.heap.size rfl (.tmp 63) (.tmp 65) 25 43 (.agg #[(.int .i64 0), (.int .i64 0), (.slice none 0 0)]) 40 rfl Try.underlying25 info43p rfl (by decide) (by omega) v136 y135 (⟨((rd_T43 l0 x11_1).f0), ((rd_T43 l0 x11_1).f1), ((rd_T43 l0 x11_1).f2)⟩ : S43) [.int .i64 ((rd_T43 l0 x11_1).f0), .int .i64 ((rd_T43 l0 x11_1).f1), .slice A111_2 ((rd_T43 l0 x11_1).f2).length c111_2] (fun k_ => (P0_ k_ ∨ w.heap.size ≤ k_) ∧ k_ ≠ gb112) (fun k_ => ((fun k_ => (P0_ k_ ∨ w.heap.size ≤ k_) ∧ k_ ≠ gb112)) k_ ∧ some k_ ≠ (v136 : Value).ownBlock) rfl rfl ?aP (fun _ hk => hk) ?aF ?aO ?aB ?aS ?aL ?_; (case aP => exact (k43_mkF _ _ (⟨((rd_T43 l0 x11_1).f0), ((rd_T43 l0 x11_1).f1), ((rd_T43 l0 x11_1).f2)⟩ : S43) HC111_2.out (fk_elt HF111.out (bs HB.out) (fun k_ hk hlt => ⟨⟨Or.inl hk, fun e_ => by have := GW112.out; omega⟩, fun e_ => by have := Kd.N_base HO137.out _ e_.symm; omega⟩)))); (case aB => exact (bs HB.out)); (case aF => exact (fun k_ hk => ⟨(Or.inr (Nat.le_trans (below_size (bs HB.out)) hk)), Kd.freshB (g := gb112) (o := .cells #[.int .i64 ((rd_T43 l0 x11_1).f0), .int .i64 ((rd_T43 l0 x11_1).f1), .slice A111_2 ((rd_T43 l0 x11_1).f2).length c111_2] 43 (0, 0)) (bg BK112.out) k_ hk⟩)); (case aO => exact (by (with_reducible repeat (first | apply Kd.N_alloc | apply Kd.N_drewN | apply Kd.N_drew)); exact HO137.out)); (case aS => exact (below_size (bs HB.out))); (case aL => have := LMc38.out; omega); intro v139 w45 ho hb hg hat; rw [← Ny138.out] at ho; have n0_ := Aside0.mk (blk_grown (g := gb112) (o := .cells #[.int .i64 ((rd_T43 l0 x11_1).f0), .int .i64 ((rd_T43 l0 x11_1).f1), .slice A111_2 ((rd_T43 l0 x11_1).f2).length c111_2] 43 (0, 0)) (bg BK112.out) hg (Kd.N_away HO137.out (fun _ hk => hk.2))); have n1_ := Aside0.mk (hb); have n2_ := Aside0.mk (ho); clear BK112; clear HB; clear HO137; have BK112 := n0_; have HB := n1_; have HO140 := n2_; clear n0_ n1_ n2_; clear ho hb hg hat))
            go_roundg kj8
            case measure => have := HK1.out; have := HJ8.out; omega
            case rel => exact ⟨(y138), (true), (wrap64 (x11_1 + 1)), (by first | rfl | (simp; done) | (simp [*]; done)), (by first | rfl | (simp; done) | (simp [*]; done)), H', ⟨by have := HK1.out; have := HJ8.out; omega⟩, ⟨by (with_reducible repeat (first | apply Kd.N_alloc | apply Kd.N_drewN | apply Kd.N_drew)); exact Kd.N_mono HO140.out (fun _ hk => hk.1)⟩, ⟨bs HB.out⟩⟩
           ·
            rw [if_neg c38] at H
            exact absurd H (by simp)
          ·
           rw [if_neg c37] at H
           exact absurd H (by simp)
    ·
     rw [if_neg c8] at H
     exact absurd H (by simp)
   ·
    rw [if_neg c7] at H
    have c7b0 : decide (x11_1 < (l0.length : Int)) = false := decide_eq_false c7
    clear c7
    by_cases c46 : x10_1 = true
    ·
     subst c46
     have H1 : (some x9_1) = some r := by rw [if_pos rfl] at H; exact H
     clear H
     have H := H1
     clear H1
     obtain rfl := Option.some.inj H
     go_wp2
     go_ret
     exact ⟨_, by first | rfl | (simp [errW_none, errW_some] <;> rfl) | (simp [*, errW_none, errW_some] <;> rfl), by (with_reducible repeat (first | apply Kd.N_alloc | apply Kd.N_drewN | apply Kd.N_drew)); exact HO_9.out, bs HB.out⟩
    ·
     replace c46 := Bool.eq_false_iff.mpr c46
     subst c46
     have H1 : (if x9_1.length < 3518437208883 then (some (x9_1 ++ [(⟨a1, a2, (([a3] : List Int))⟩ : S43)])) else (none)) = some r := by rw [if_neg (show ¬ (false = true) by decide)] at H; exact H
     clear H
     have H := H1
     clear H1
     obtain ⟨y105, hy105⟩ : ∃ y_ : List Int, y_ = (([a3] : List Int)) := ⟨_, rfl⟩
     replace H : (if x9_1.length < 3518437208883 then (some (x9_1 ++ [(⟨a1, a2, y105⟩ : S43)])) else (none)) = some r := by first | (rw [hy105]; with_reducible exact H) | (have H2_ := (Option.bind_some _ _).symm.trans H; rw [hy105]; with_reducible exact H2_) | (have H2_ := (Option.bind_some _ _).symm.trans H; with_reducible exact H2_) | with_reducible exact H | (rw [hy105]; exact H) | exact H
     have Ny105 := Aside0.mk hy105
     clear hy105
     by_cases c47 : x9_1.length < 3518437208883
     ·
      rw [if_pos c47] at H
      have LMc47 := Aside0.mk c47
      clear c47
      obtain ⟨y108, hy108⟩ : ∃ y_ : List (S43), y_ = (x9_1 ++ [(⟨a1, a2, y105⟩ : S43)]) := ⟨_, rfl⟩
      replace H : (some y108) = some r := by first | (rw [hy108]; with_reducible exact H) | (have H2_ := (Option.bind_some _ _).symm.trans H; rw [hy108]; with_reducible exact H2_) | (have H2_ := (Option.bind_some _ _).symm.trans H; with_reducible exact H2_) | with_reducible exact H | (rw [hy108]; exact H) | exact H
      have Ny108 := Aside0.mk hy108
      clear hy108
      obtain rfl := Option.some.inj H
      go_wp2_with (first | ((with_reducible refine gate_dst (N := 73) rfl ?_); refine Kd.R_lit (Kd.int .i64) _ 3 ?hg (N := 73) ?hd (xs := ([a3] : List Int)) (inner := [.int .i64 a3]) (ok := fun _ => True) (okp := fun _ => True) ?hr ?hp (fun _ hk => hk) trivial (Below.refl _ _) (Nat.le_refl _) (by simp) ?_; (case hd => rfl); (case hg => rfl); (case hr => first | (go_simp; done) | (go_simp; rfl)); (case hp => exact (Reps.one (show Kd.M (Kd.int .i64) _ _ _ a3 [.int .i64 a3] from rfl) (Reps.none _ _))); intro v106 w48 ho49 hb hg_ hnew_; clear hg_ hnew_; (first | rw [← Ny105.out] at ho49 | (simp only [Int.reduceToNat] at ho49; rw [← Ny105.out] at ho49)); have n0_ := Aside0.mk (Kd.N_elder' (by (with_reducible repeat (first | apply Kd.N_alloc | apply Kd.N_drewN | apply Kd.N_drew)); exact HO_9.out) (Kd.R_base ho49) hb); have n1_ := Aside0.mk (Kd.R_lower (Kd.R_newM (M := fun k_ => (P0_ k_ ∨ w.heap.size ≤ k_)) ho49 (below_size (bs HB.out)) (fun k_ h_ => Or.inr h_)) (below_size (bs HB.out))); have n2_ := Aside0.mk (below_step (bs HB.out) hb); clear HO_9; clear HB; have HO_9 := n0_; have HO107 := n1_; have HB := n2_; clear n0_ n1_ n2_; clear hb ho49; obtain ⟨Ao50, co50, eo50⟩ := Kd.R_slice HO107.out; subst eo50) | ((with_reducible refine gate_builtin (b := .append) (xs := #[.tmp 69, .tmp 75]) rfl ?_); at_builtin; refine Kd.N_append k43 (w0 := w) w.heap.size rfl (.tmp 69) (.tmp 75) 25 43 (.agg #[(.int .i64 0), (.int .i64 0), (.slice none 0 0)]) 40 rfl Try.underlying25 info43p rfl (by decide) (by omega) u9 x9_1 (⟨a1, a2, y105⟩ : S43) [.int .i64 a1, .int .i64 a2, .slice Ao50 y105.length co50] (fun k_ => (P0_ k_ ∨ w.heap.size ≤ k_)) (fun k_ => ((fun k_ => (P0_ k_ ∨ w.heap.size ≤ k_))) k_ ∧ some k_ ≠ (u9 : Value).ownBlock) rfl rfl ?aP (fun _ hk => hk) ?aF ?aO ?aB ?aS ?aL ?_; (case aP => exact (k43_mkF _ _ (⟨a1, a2, y105⟩ : S43) (Kd.R_reads' (Kd.R_mono (ok' := (fun k_ => ((fun k_ => (P0_ k_ ∨ w.heap.size ≤ k_))) k_ ∧ some k_ ≠ (u9 : Value).ownBlock)) (Kd.R_apart' (HO107.out) (Kd.N_typed HO_9.out) (by decide)) (fun k_ hk => ⟨hk.1.1, hk.2⟩))).2.1 (Kd.R_F (Kd.R_mono (ok' := (fun k_ => ((fun k_ => (P0_ k_ ∨ w.heap.size ≤ k_))) k_ ∧ some k_ ≠ (u9 : Value).ownBlock)) (Kd.R_apart' (HO107.out) (Kd.N_typed HO_9.out) (by decide)) (fun k_ hk => ⟨hk.1.1, hk.2⟩))))); (case aB => exact (bs HB.out)); (case aF => exact (fun k_ hk => (Or.inr (Nat.le_trans (below_size (bs HB.out)) hk)))); (case aO => exact (by (with_reducible repeat (first | apply Kd.N_alloc | apply Kd.N_drewN | apply Kd.N_drew)); exact Kd.N_mono HO_9.out (fun _ hk => hk.1))); (case aS => exact (below_size (bs HB.out))); (case aL => have := LMc47.out; omega); intro v109 w51 ho hb hg hat; rw [← Ny108.out] at ho; have n0_ := Aside0.mk (hb); have n1_ := Aside0.mk (ho); clear HB; clear HO_9; clear HO107; have HB := n0_; have HO110 := n1_; clear n0_ n1_; clear ho hb hg hat))
      go_ret
      exact ⟨_, by first | rfl | (simp [errW_none, errW_some] <;> rfl) | (simp [*, errW_none, errW_some] <;> rfl), by (with_reducible repeat (first | apply Kd.N_alloc | apply Kd.N_drewN | apply Kd.N_drew)); exact HO110.out, bs HB.out⟩
     ·
      rw [if_neg c47] at H
      exact absurd H (by simp)

end Go.Proofs.Yteifekndhgkgcaa.H
