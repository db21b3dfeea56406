-- Printed by wip/hprint.py (this project's own driver of the kit's print) out of the translation; Lean checks it.
import Derived.Test.YtgdjiphljadlcaaK0
import Derived.Test.YtgdjiphljadlcaaK11
import Derived.Test.YtgdjiphljadlcaaK15
import Derived.Test.YtgdjiphljadlcaaKAll
namespace Go.Proofs.Ytgdjiphljadlcaa.K
open Go.RowKit Go.Proofs.YtgdjiphljadlcaaW.PrintWords Go.Proofs.YtgdjiphljadlcaaW.PrintLast Go.Proofs.YtgdjiphljadlcaaW.PrintMore
attribute [local go_sem] max2_int min2_int max_two min_two max_three min_three max_four min_four   -- for this text's walks alone
set_option linter.unusedVariables false
set_option linter.unusedSimpArgs false

/-! ### signalbenchlaw47_SearchPrefixes: function 13 -/
mutual
def signalbenchlaw47_SearchPrefixes.j0 : Nat → List (S46) → Int → Bool → List (S50) → Option (Bool)
 | 0, _, _, _, _ => none
 | k + 1, x1, x2, x23, x472000 => if x23 = true then ((signalbenchlaw47_awake.f).bind fun t472 => (some t472)) else ((search_All.f k x472000 x1).bind fun t473 => (if 0 ≤ x2 then (if x2 ≤ (x1.length : Int) then ((search_All.f k x472000 (x1.take (x2 : Int).toNat)).bind fun t480 => (signalbenchlaw47_SearchPrefixes.l0 k x2 t473 t480 (([] : List Int)) 0)) else (none)) else (none)))
def signalbenchlaw47_SearchPrefixes.l0 : Nat → Int → List Int → List Int → List Int → Int → Option (Bool)
 | 0, _, _, _, _, _ => none
 | k + 1, x2, x7, x8, x9, x10 => if x10 < (x7.length : Int) then (if 0 ≤ x10 then (if (rd x7 x10) < x2 then (if x9.length < 17592186044416 then (signalbenchlaw47_SearchPrefixes.l0 k x2 x7 x8 (x9 ++ [rd x7 x10]) (wrap64 (x10 + 1))) else (none)) else (signalbenchlaw47_SearchPrefixes.l0 k x2 x7 x8 x9 (wrap64 (x10 + 1)))) else (none)) else ((signalbenchlaw47_ints.f k x8 x9).bind fun t491 => (if t491 = true then ((signalbenchlaw47_awake.f).bind fun t492 => (some t492)) else (some false)))
end
def signalbenchlaw47_SearchPrefixes.f (k : Nat) (l0_0 : List (S50)) (l1 : List (S46)) (a2 : Int) : Option (Bool) := if (l1.length : Int) > 200 then (signalbenchlaw47_SearchPrefixes.j0 k l1 a2 true l0_0) else (if a2 < 0 then (signalbenchlaw47_SearchPrefixes.j0 k l1 a2 true l0_0) else (signalbenchlaw47_SearchPrefixes.j0 k l1 a2 (decide (a2 > (l1.length : Int))) l0_0))
set_option maxHeartbeats 8000000 in
set_option maxRecDepth 100000 in
theorem signalbenchlaw47_SearchPrefixes.calls (k : Nat) (A0_0 : Option Addr) (c0_0 : Nat) (l0_0 : List (S50)) (A1 : Option Addr) (c1 : Nat) (l1 : List (S46)) (a2 : Int) (r : Bool) (w : World) (hr0_0 : Kd.C k50 w A0_0 l0_0.length l0_0) (hc0_0 : l0_0.length ≤ c0_0) (hr1 : Kd.C k46 w A1 l1.length l1) (hc1 : l1.length ≤ c1) (h : signalbenchlaw47_SearchPrefixes.f k l0_0 l1 a2 = some r) :
  Calls Try.prog 13 #[.agg #[.slice A0_0 l0_0.length c0_0], .slice A1 l1.length c1, .int .i64 a2] w fun e w' => e = .returned (.bool r) ∧ Below w.heap.size w w' := by
 have hu31 := Try.underlying31
 have HR0_0 := Aside0.mk hr0_0
 have HC0_0 := Aside0.mk hc0_0
 clear hr0_0 hc0_0
 have HR1 := Aside0.mk hr1
 have HC1 := Aside0.mk hc1
 clear hr1 hc1
 have HB := Aside0.mk (Below.refl w.heap.size w)
 have H : (if (l1.length : Int) > 200 then (signalbenchlaw47_SearchPrefixes.j0 k l1 a2 true l0_0) else (if a2 < 0 then (signalbenchlaw47_SearchPrefixes.j0 k l1 a2 true l0_0) else (signalbenchlaw47_SearchPrefixes.j0 k l1 a2 (decide (a2 > (l1.length : Int))) l0_0))) = some r := h
 clear h
 have HC4 := Aside0.mk H
 clear H
 go_enter Try.func13, Try.ntmps13
 go_upto_region 1 with (first | ((with_reducible refine gate_dst (N := 3) rfl ?_); (try (refine gate_guard (by rfl) ?_; dsimp only)); refine box_event ?hg (N := 3) ?hd (cs := #[.slice A0_0 l0_0.length c0_0]) (t := 31) ?hr ?_; (case hd => rfl); (case hg => rfl); (case hr => first | (go_simp; done) | (go_simp; rfl)); intro gb471 hg w5 hbox hb; have n0_ := Aside0.mk (below_step (bs HB.out) hb); have n1_ := Aside0.mk (hbox); have n2_ := Aside0.mk ((by rw [hg]; exact (below_size (bs HB.out)) : w.heap.size ≤ gb471)); have n3_ := n2_; clear HB; have HB := n0_; have BK471 := n1_; have GW471 := n2_; have GE471 := n3_; clear n0_ n1_ n2_ n3_; clear hb hbox hg))
 (try simp only [Act.put, List.setIfInBounds_toArray, List.set_cons_zero, List.set_cons_succ])
 go_cut [23] (fun v23 wc => ∃ (kq : Nat) (x23_3 : Bool), v23 = .bool x23_3 ∧ Aside0 (signalbenchlaw47_SearchPrefixes.j0 kq l1 a2 x23_3 l0_0 = some r) ∧ Aside0 (kq ≤ k) ∧ Aside0 (wc.heap[gb471]? = some (.cells #[(.slice A0_0 l0_0.length c0_0)] 31 (0, 0))) ∧ Aside0 (Below w.heap.size w wc))
 case first =>
  have H := HC4.out
  clear HC4
  by_cases c6 : (l1.length : Int) > 200
  ·
   rw [if_pos c6] at H
   have c6b0 : decide (200 < (l1.length : Int)) = true := decide_eq_true c6
   have c6b1 : decide (200 < l1.length) = true := decide_eq_true (by omega)
   clear c6
   (first | rw [c6b0] | (simp only [i64_w, i32_w]; rw [c6b0]) | skip)
   have H' := Aside0.mk H
   clear H
   go_wp2
   go_meet
   case rel => exact ⟨_, (true), (by first | rfl | (simp; done) | (simp [*]; done)), H', ⟨by first | omega | exact Nat.le_refl _⟩, ⟨bg BK471.out⟩, ⟨bs HB.out⟩⟩
  ·
   rw [if_neg c6] at H
   have c6b0 : decide (200 < (l1.length : Int)) = false := decide_eq_false c6
   have c6b1 : decide (200 < l1.length) = false := decide_eq_false (by omega)
   clear c6
   (first | rw [c6b0] | (simp only [i64_w, i32_w]; rw [c6b0]) | skip)
   by_cases c7 : a2 < 0
   ·
    rw [if_pos c7] at H
    have c7b0 : decide (a2 < 0) = true := decide_eq_true c7
    clear c7
    have H' := Aside0.mk H
    clear H
    go_wp2
    go_meet
    case rel => exact ⟨_, (true), (by first | rfl | (simp; done) | (simp [*]; done)), H', ⟨by first | omega | exact Nat.le_refl _⟩, ⟨bg BK471.out⟩, ⟨bs HB.out⟩⟩
   ·
    rw [if_neg c7] at H
    have c7b0 : decide (a2 < 0) = false := decide_eq_false c7
    clear c7
    have H' := Aside0.mk H
    clear H
    go_wp2
    go_meet
    case rel => exact ⟨_, (decide (a2 > (l1.length : Int))), (by first | rfl | (simp; done) | (simp [*]; done)), H', ⟨by first | omega | exact Nat.le_refl _⟩, ⟨bg BK471.out⟩, ⟨bs HB.out⟩⟩
 case rest =>
  clear HC4
  try clear c1
  try clear p2
  try clear c6
  try clear c6b0
  try clear c6b1
  try clear c7
  try clear c7b0
  obtain ⟨kq, x23_3, rfl, HA, HJ3, BK471, HB⟩ := hcut
  cases kq with
  | zero => exact absurd HA.out (by simp [signalbenchlaw47_SearchPrefixes.j0])
  | succ kj3 =>
   have H := HA.out
   clear HA
   simp only [signalbenchlaw47_SearchPrefixes.j0] at H
   by_cases c8 : x23_3 = true
   ·
    subst c8
    have H1 : ((signalbenchlaw47_awake.f).bind fun t472 => (some t472)) = some r := by rw [if_pos rfl] at H; exact H
    clear H
    have H := H1
    clear H1
    replace H := Option.bind_eq_some_iff.mp H
    obtain ⟨t472, A90, H⟩ := H
    replace H : (some t472) = some r := H
    have A9 := Aside0.mk A90
    clear A90
    obtain rfl := Option.some.inj H
    go_wp2_with (first | ((with_reducible refine gate_callee (f := 26) rfl ?_); refine goesL_ (some 24) rfl rfl Try.func26 (by kernel_rfl) rfl #[] rfl (by (try simp only [List.map_toArray, List.map_cons, List.map_nil]); first | done | rfl | (simp only [List.length_drop, List.length_take]; rfl)) ?_; (with_reducible refine (signalbenchlaw47_awake.calls  t472 _ A9.out).mono ?_); rintro e w10 ⟨rfl, hb⟩; refine ⟨_, rfl, ?_⟩; have n0_ := Aside0.mk (blk_below (bg BK471.out) hb); have n1_ := Aside0.mk (below_step (bs HB.out) hb); clear BK471; clear HB; have BK471 := n0_; have HB := n1_; clear n0_ n1_; (try clear hb); (try clear hb2); (try clear hk); (try clear hi)))
    go_ret
    exact ⟨by first | rfl | (simp [errW_none, errW_some] <;> rfl) | (simp [*, errW_none, errW_some] <;> rfl), bs HB.out⟩
   ·
    replace c8 := Bool.eq_false_iff.mpr c8
    subst c8
    have H1 : ((search_All.f kj3 l0_0 l1).bind fun t473 => (if 0 ≤ a2 then (if a2 ≤ (l1.length : Int) then ((search_All.f kj3 l0_0 (l1.take (a2 : Int).toNat)).bind fun t480 => (signalbenchlaw47_SearchPrefixes.l0 kj3 a2 t473 t480 (([] : List Int)) 0)) else (none)) else (none))) = some r := by rw [if_neg (show ¬ (false = true) by decide)] at H; exact H
    clear H
    have H := H1
    clear H1
    replace H := Option.bind_eq_some_iff.mp H
    obtain ⟨t473, A110, H⟩ := H
    replace H : (if 0 ≤ a2 then (if a2 ≤ (l1.length : Int) then ((search_All.f kj3 l0_0 (l1.take (a2 : Int).toNat)).bind fun t480 => (signalbenchlaw47_SearchPrefixes.l0 kj3 a2 t473 t480 (([] : List Int)) 0)) else (none)) else (none)) = some r := H
    have A11 := Aside0.mk A110
    clear A110
    by_cases c12 : 0 ≤ a2
    ·
     rw [if_pos c12] at H
     have c12b0 := eq_true c12
     have c12b1 : decide (0 ≤ a2) = true := decide_eq_true c12
     clear c12
     by_cases c13 : a2 ≤ (l1.length : Int)
     ·
      rw [if_pos c13] at H
      have c13b0 := eq_true c13
      have c13b1 : decide (a2 ≤ (l1.length : Int)) = true := decide_eq_true c13
      clear c13
      obtain ⟨y476, hy476⟩ : ∃ y_ : List (S46), y_ = (l1.take (a2 : Int).toNat) := ⟨_, rfl⟩
      replace H : ((search_All.f kj3 l0_0 y476).bind fun t480 => (signalbenchlaw47_SearchPrefixes.l0 kj3 a2 t473 t480 (([] : List Int)) 0)) = some r := by first | (rw [hy476]; with_reducible exact H) | (have H2_ := (Option.bind_some _ _).symm.trans H; rw [hy476]; with_reducible exact H2_) | (have H2_ := (Option.bind_some _ _).symm.trans H; with_reducible exact H2_) | with_reducible exact H | (rw [hy476]; exact H) | exact H
      have Ny476 := Aside0.mk hy476
      clear hy476
      replace H := Option.bind_eq_some_iff.mp H
      obtain ⟨t480, A140, H⟩ := H
      replace H : (signalbenchlaw47_SearchPrefixes.l0 kj3 a2 t473 t480 (([] : List Int)) 0) = some r := H
      have A14 := Aside0.mk A140
      clear A140
      obtain ⟨y483, hy483⟩ : ∃ y_ : List Int, y_ = (([] : List Int)) := ⟨_, rfl⟩
      replace H : (signalbenchlaw47_SearchPrefixes.l0 kj3 a2 t473 t480 y483 0) = some r := by first | (rw [hy483]; with_reducible exact H) | (have H2_ := (Option.bind_some _ _).symm.trans H; rw [hy483]; with_reducible exact H2_) | (have H2_ := (Option.bind_some _ _).symm.trans H; with_reducible exact H2_) | with_reducible exact H | (rw [hy483]; exact H) | exact H
      have Ny483 := Aside0.mk hy483
      clear hy483
      have H' := Aside0.mk H
      clear H
      have hcz15_0 : wc.cell? ⟨gb471, 0, none⟩ = some (.slice A0_0 l0_0.length c0_0) := (blk_cell BK471.out 0).trans rfl
      have hfz15_0 := blk_frozen BK471.out 0
      try go_wp2_with (first | ((with_reducible refine gate_callee (f := 30) rfl ?_); refine goesL_ (some 27) rfl rfl Try.func30 (by kernel_rfl) rfl #[.agg #[.slice A0_0 l0_0.length c0_0], .slice A1 l1.length c1] rfl (by (try simp only [List.map_toArray, List.map_cons, List.map_nil]); first | done | rfl | (simp only [List.length_drop, List.length_take]; rfl)) ?_; (with_reducible refine (search_All.calls kj3 _ _ l0_0 _ _ l1 t473 _ ?side1 ?side2 ?side3 ?side4 A11.out).mono ?_); (case side1 => repeat (first | exact (Kd.C_below HR0_0.out HB.out) | (with_reducible refine Kd.C_alloc ?_ _) | (with_reducible refine Kd.C_drewN ?_ _) | (with_reducible refine Kd.C_drew ?_))); (case side2 => exact HC0_0.out); (case side3 => repeat (first | exact (Kd.C_below HR1.out HB.out) | (with_reducible refine Kd.C_alloc ?_ _) | (with_reducible refine Kd.C_drewN ?_ _) | (with_reducible refine Kd.C_drew ?_))); (case side4 => exact HC1.out); rintro e w16 ⟨v474, rfl, ho0, hb⟩; refine ⟨_, rfl, ?_⟩; have n0_ := Aside0.mk (Kd.R_lower ho0 (below_size (bs HB.out))); have n1_ := Aside0.mk (blk_below (bg BK471.out) hb); have n2_ := Aside0.mk (below_step (bs HB.out) hb); clear BK471; clear HB; have HO475 := n0_; have BK471 := n1_; have HB := n2_; clear n0_ n1_ n2_; (try clear hb); (try clear hb2); (try clear hk); (try clear hi); (try clear ho0)))
      have n0_ := Aside0.mk (Kd.R_drew HO475.out)
      have n1_ := Aside0.mk (blk_drew BK471.out)
      have n2_ := Aside0.mk (below_drew1 HB.out)
      clear HO475
      clear BK471
      clear HB
      have HO475 := n0_
      have BK471 := n1_
      have HB := n2_
      clear n0_ n1_ n2_
      have q18 : (a2 : Int) ≤ ((l1.length : Int) : Int) := of_decide_eq_true (by first | (with_reducible assumption) | assumption)
      obtain ⟨i018, hi018, _, hsz18, _⟩ := info_parts info46
      have hroom18 : l1.length ≤ c1 := HC1.out
      have hC18 : Kd.C k46 _ A1 l1.length l1 := HR1.out
      have hcut18 := cut_to (P := Try.prog) 51 46 .i64 Try.underlying51 hi018 A1 l1.length c1 a2 (of_decide_eq_true (by first | (with_reducible assumption) | assumption)) q18 hroom18
      have hr18 := Kd.C_take (m := (a2 : Int).toNat) hC18 (by omega)
      have hy18 : y476.length = (a2 : Int).toNat := (by rw [Ny476.out, List.length_take]; omega)
      rw [← Ny476.out] at hr18
      rw [← hy18] at hcut18
      have HR479 := Aside0.mk hr18
      have HC479 := Aside0.mk (show y476.length ≤ c1 from by omega)
      clear hr18 hC18 hroom18 hi018 hsz18
      have KY18 := Aside0.mk hy18
      clear hy18
      replace q18 := eq_true q18
      refine start_ (n := 6) (S := fun w' => w'.cell? ⟨gb471, 0, none⟩ = some (.slice A0_0 l0_0.length c0_0)) (ds := []) (bsq 0 6) (by kernel_rfl) rfl rfl ((blk_cell BK471.out 0).trans rfl) (fun hHeld => ?_)
      generalize w16.drew = w17 at HO475 BK471 HB HR479 hHeld ⊢
      refine puk 1 29 (bls [0, 1, 1, 4]) ?_
      refine puk 2 30 (bls [0, 1, 2, 3]) ?_
      refine puk 3 31 (bls [0, 1, 3, 2]) ?_
      refine tkk 0 28 (bsq 4 2) hHeld ?_ (he := by intro w' s0; go_simp; with_reducible rfl)
      refine one_ (i := 4) (N := some 32) (bsq 5 1) rfl rfl (by kernel_rfl) (by decide) (fun K hK => ?_)
      refine goes_ Try.func30 (by kernel_rfl) rfl #[.agg #[.slice A0_0 l0_0.length c0_0], .slice A1 y476.length c1] (by rfl) rfl rfl (by (try simp only [List.map_toArray, List.map_cons, List.map_nil]); first | done | rfl | (simp only [List.length_drop, List.length_take]; rfl)) ?_
      with_reducible refine (search_All.calls kj3 _ _ l0_0 _ _ y476 t480 _ ?side1 ?side2 ?side3 ?side4 A14.out).mono ?_
      (case side1 => repeat (first | exact (Kd.C_below HR0_0.out HB.out) | (with_reducible refine Kd.C_alloc ?_ _) | (with_reducible refine Kd.C_drewN ?_ _) | (with_reducible refine Kd.C_drew ?_)))
      (case side2 => exact HC0_0.out)
      (case side3 => repeat (first | exact (Kd.C_below HR479.out HB.out) | (with_reducible refine Kd.C_alloc ?_ _) | (with_reducible refine Kd.C_drewN ?_ _) | (with_reducible refine Kd.C_drew ?_)))
      (case side4 => exact HC479.out)
      rintro e w19 ⟨v481, rfl, ho0, hb⟩
      refine ⟨_, rfl, ?_⟩
      have n0_ := Aside0.mk (Kd.R_elder' (rq HO475.out) (Kd.R_base ho0) hb)
      have n1_ := Aside0.mk (Kd.R_lower (Kd.R_new' ho0 (Kd.R_lt (rq HO475.out))) (below_size (bs HB.out)))
      have n2_ := Aside0.mk (blk_below (bg BK471.out) hb)
      have n3_ := Aside0.mk (below_step (bs HB.out) hb)
      clear HO475
      clear BK471
      clear HB
      have HO475 := n0_
      have HO482 := n1_
      have BK471 := n2_
      have HB := n3_
      clear n0_ n1_ n2_ n3_
      (try clear hb)
      (try clear hb2)
      (try clear hk)
      (try clear hi)
      (try clear ho0)
      refine hK.out _ _ ((blk_cell BK471.out 0).trans rfl) (fun hHeld => ?_)
      clear hK K
      refine norm_ (a' := ?_) ?_ ?_
      rotate_left
      ·
       show Act.put _ (some 32) _ = _
       simp only [Act.put, List.setIfInBounds_toArray, List.set_cons_zero, List.set_cons_succ, i64_w, i32_w]
       rfl
      refine puk 5 8 (bsq 6 0) ?_
      refine done_ (by kernel_rfl) ?_
      try go_wp2_with (first | ((with_reducible refine gate_dst (N := 33) rfl ?_); (try (refine gate_guard (by rfl) ?_; dsimp only)); refine Kd.R_lit (Kd.int .i64) _ 3 ?hg (N := 33) ?hd (xs := ([] : List Int)) (inner := []) (ok := fun _ => True) (okp := fun _ => True) ?hr ?hp (fun _ hk => hk) trivial (Below.refl _ _) (Nat.le_refl _) (by simp) ?_; (case hd => rfl); (case hg => rfl); (case hr => first | (go_simp; done) | (go_simp; rfl)); (case hp => exact (Reps.none _ _)); intro v484 w20 ho21 hb hg_ hnew_; clear hg_ hnew_; (first | rw [← Ny483.out] at ho21 | (simp only [Int.reduceToNat] at ho21; rw [← Ny483.out] at ho21)); have n0_ := Aside0.mk (Kd.R_elder' (rq HO475.out) (Kd.R_base ho21) hb); have n1_ := Aside0.mk (Kd.R_elder' (rq HO482.out) (Kd.R_base ho21) hb); have n2_ := Aside0.mk (Kd.R_lower (Kd.R_new' (Kd.R_new' ho21 (Kd.R_lt (rq HO475.out))) (Kd.R_lt (rq HO482.out))) (below_size (bs HB.out))); have n3_ := Aside0.mk (blk_below (bg BK471.out) hb); have n4_ := Aside0.mk (below_step (bs HB.out) hb); clear HO475; clear HO482; clear BK471; clear HB; have HO475 := n0_; have HO482 := n1_; have HO485 := n2_; have BK471 := n3_; have HB := n4_; clear n0_ n1_ n2_ n3_ n4_; clear hb ho21))
      go_loopg [9, 10] kj3 (fun kq v9 v10 w' => ∃ (x9_2 : List Int) (x10_2 : Int), v10 = .int .i64 x10_2 ∧ Aside0 (signalbenchlaw47_SearchPrefixes.l0 kq a2 t473 t480 x9_2 x10_2 = some r) ∧ Aside0 (kq ≤ kj3) ∧ Aside0 (Kd.R (Kd.int .i64) 3 w' w.heap.size (fun k_ => some k_ ≠ (v481 : Value).ownBlock ∧ some k_ ≠ (v9 : Value).ownBlock) v474 t473) ∧ Aside0 (Kd.R (Kd.int .i64) 3 w' w.heap.size (fun k_ => some k_ ≠ (v474 : Value).ownBlock ∧ some k_ ≠ (v9 : Value).ownBlock) v481 t480) ∧ Aside0 (Kd.R (Kd.int .i64) 3 w' w.heap.size (fun k_ => some k_ ≠ (v474 : Value).ownBlock ∧ some k_ ≠ (v481 : Value).ownBlock) v9 x9_2) ∧ Aside0 (w'.heap[gb471]? = some (.cells #[(.slice A0_0 l0_0.length c0_0)] 31 (0, 0))) ∧ Aside0 (Below w.heap.size w w'))
      case atStart => exact ⟨(y483), (0), (by first | rfl | (simp; done) | (simp [*]; done)), H', ⟨Nat.le_refl _⟩, ⟨by (with_reducible repeat (first | apply Kd.R_alloc | apply Kd.R_drewN | apply Kd.R_drew)); exact Kd.R_mono HO475.out (fun _ hk => ⟨hk.1.2, hk.2⟩)⟩, ⟨by (with_reducible repeat (first | apply Kd.R_alloc | apply Kd.R_drewN | apply Kd.R_drew)); exact Kd.R_mono HO482.out (fun _ hk => ⟨hk.1.2, hk.2⟩)⟩, ⟨by (with_reducible repeat (first | apply Kd.R_alloc | apply Kd.R_drewN | apply Kd.R_drew)); exact Kd.R_mono HO485.out (fun _ hk => ⟨hk.1.2, hk.2⟩)⟩, ⟨bg BK471.out⟩, ⟨bs HB.out⟩⟩
      case round =>
       clear H'
       try clear c1
       try clear q1
       try clear c2
       try clear p2
       try clear c3
       try clear c6
       try clear c6b0
       try clear c6b1
       try clear c7
       try clear c7b0
       try clear c8
       try clear c12
       try clear c12b0
       try clear c12b1
       try clear c13
       try clear c13b0
       try clear c13b1
       try clear q18
       try clear hcz15_0
       try clear hfz15_0
       try clear p2
       try clear q18
       obtain ⟨x9_2, x10_2, rfl, HA, HK2, HO_7, HO_8, HO_9, BK471, HB⟩ := hrel
       cases gk with
       | zero => exact absurd HA.out (by simp [signalbenchlaw47_SearchPrefixes.l0])
       | succ k2 =>
        have H := HA.out
        clear HA
        simp only [signalbenchlaw47_SearchPrefixes.l0] at H
        by_cases c22 : x10_2 < (t473.length : Int)
        ·
         rw [if_pos c22] at H
         have c22b0 : decide (x10_2 < (t473.length : Int)) = true := decide_eq_true c22
         clear c22
         by_cases c23 : 0 ≤ x10_2
         ·
          rw [if_pos c23] at H
          have c23b0 : decide (0 ≤ x10_2) = true := decide_eq_true c23
          clear c23
          by_cases c24 : (rd t473 x10_2) < a2
          ·
           rw [if_pos c24] at H
           have c24b0 : decide ((rd t473 x10_2) < a2) = true := decide_eq_true c24
           clear c24
           by_cases c25 : x9_2.length < 17592186044416
           ·
            rw [if_pos c25] at H
            have LMc25 := Aside0.mk c25
            clear c25
            obtain ⟨y488, hy488⟩ : ∃ y_ : List Int, y_ = (x9_2 ++ [rd t473 x10_2]) := ⟨_, rfl⟩
            replace H : (signalbenchlaw47_SearchPrefixes.l0 k2 a2 t473 t480 y488 (wrap64 (x10_2 + 1))) = some r := by first | (rw [hy488]; with_reducible exact H) | (have H2_ := (Option.bind_some _ _).symm.trans H; rw [hy488]; with_reducible exact H2_) | (have H2_ := (Option.bind_some _ _).symm.trans H; with_reducible exact H2_) | with_reducible exact H | (rw [hy488]; exact H) | exact H
            have Ny488 := Aside0.mk hy488
            clear hy488
            have H' := Aside0.mk H
            clear H
            obtain ⟨Ao26, co26, eo26⟩ := Kd.R_slice HO_7.out
            subst eo26
            have p486 : 0 ≤ (x10_2 : Int) := of_decide_eq_true (by first | (with_reducible assumption) | assumption)
            have q486 : x10_2 < (t473.length : Int) := of_decide_eq_true (by first | (with_reducible assumption) | assumption)
            obtain ⟨ad486, e486, hx486_0⟩ := Kd.at_int (Kd.R_reads' HO_7.out).2.2 x10_2 p486 q486
            cases e486
            replace p486 := eq_true p486
            replace q486 := eq_true q486
            have p487 : 0 ≤ (x10_2 : Int) := of_decide_eq_true (by first | (with_reducible assumption) | assumption)
            have q487 : x10_2 < (t473.length : Int) := of_decide_eq_true (by first | (with_reducible assumption) | assumption)
            obtain ⟨ad487, e487, hx487_0⟩ := Kd.at_int (Kd.R_reads' HO_7.out).2.2 x10_2 p487 q487
            obtain rfl : ad486 = ad487 := (by injection e487)
            replace p487 := eq_true p487
            replace q487 := eq_true q487
            go_wp2_with (first | ((with_reducible refine gate_builtin (b := .append) (xs := #[.tmp 46, .tmp 51]) rfl ?_); (try (refine gate_guard (by rfl) ?_; dsimp only)); at_builtin; refine Kd.R_append (Kd.int .i64) (w0 := w) w.heap.size rfl (.tmp 46) (.tmp 51) 52 3 (.int .i64 0) 8 rfl Try.underlying52 info3 rfl (by decide) (by omega) u9 x9_2 (rd t473 x10_2) [.int .i64 (rd t473 x10_2)] (fun k_ => some k_ ≠ (.slice (some ad486) t473.length co26 : Value).ownBlock ∧ some k_ ≠ (v481 : Value).ownBlock) (fun _ => False) rfl rfl ?aP (fun _ hk => hk.elim) ?aF ?aO ?aB ?aS ?aL ?_; (case aP => exact rfl); (case aB => exact (bs HB.out)); (case aF => exact (fun k_ hk => ⟨Kd.fresh' (Kd.R_lt (rq HO_7.out)) k_ hk, Kd.fresh' (Kd.R_lt (rq HO_8.out)) k_ hk⟩)); (case aO => exact (rq HO_9.out)); (case aS => exact (below_size (bs HB.out))); (case aL => have := LMc25.out; omega); intro v489 w27 ho hb hg hat; rw [← Ny488.out] at ho; have n0_ := Aside0.mk (Kd.R_after (ok := (fun k_ => some k_ ≠ (v481 : Value).ownBlock)) (rq HO_7.out) hg hat); have n1_ := Aside0.mk (Kd.R_after (ok := (fun k_ => some k_ ≠ (.slice (some ad486) t473.length co26 : Value).ownBlock)) (rq HO_8.out) hg hat); have n2_ := Aside0.mk (blk_grown (g := gb471) (o := .cells #[.slice A0_0 l0_0.length c0_0] 31 (0, 0)) (bg BK471.out) hg (Kd.R_ne HO_9.out BK471.out (by decide))); have n3_ := Aside0.mk (hb); have n4_ := Aside0.mk (ho); clear HO_7; clear HO_8; clear BK471; clear HB; clear HO_9; have HO_7 := n0_; have HO_8 := n1_; have BK471 := n2_; have HB := n3_; have HO490 := n4_; clear n0_ n1_ n2_ n3_ n4_; clear ho hb hg hat))
            go_roundg k2
            case measure => have := HJ3.out; have := HK2.out; omega
            case rel => exact ⟨(y488), (wrap64 (x10_2 + 1)), (by first | rfl | (simp; done) | (simp [*]; done)), H', ⟨by have := HJ3.out; have := HK2.out; omega⟩, ⟨by (with_reducible repeat (first | apply Kd.R_alloc | apply Kd.R_drewN | apply Kd.R_drew)); exact HO_7.out⟩, ⟨by (with_reducible repeat (first | apply Kd.R_alloc | apply Kd.R_drewN | apply Kd.R_drew)); exact HO_8.out⟩, ⟨by (with_reducible repeat (first | apply Kd.R_alloc | apply Kd.R_drewN | apply Kd.R_drew)); exact HO490.out⟩, ⟨bg BK471.out⟩, ⟨bs HB.out⟩⟩
           ·
            rw [if_neg c25] at H
            exact absurd H (by simp)
          ·
           rw [if_neg c24] at H
           have c24b0 : decide ((rd t473 x10_2) < a2) = false := decide_eq_false c24
           clear c24
           have H' := Aside0.mk H
           clear H
           obtain ⟨Ao28, co28, eo28⟩ := Kd.R_slice HO_7.out
           subst eo28
           have p486 : 0 ≤ (x10_2 : Int) := of_decide_eq_true (by first | (with_reducible assumption) | assumption)
           have q486 : x10_2 < (t473.length : Int) := of_decide_eq_true (by first | (with_reducible assumption) | assumption)
           obtain ⟨ad486, e486, hx486_0⟩ := Kd.at_int (Kd.R_reads' HO_7.out).2.2 x10_2 p486 q486
           cases e486
           replace p486 := eq_true p486
           replace q486 := eq_true q486
           go_wp2
           go_roundg k2
           case measure => have := HJ3.out; have := HK2.out; omega
           case rel => exact ⟨(x9_2), (wrap64 (x10_2 + 1)), (by first | rfl | (simp; done) | (simp [*]; done)), H', ⟨by have := HJ3.out; have := HK2.out; omega⟩, ⟨by (with_reducible repeat (first | apply Kd.R_alloc | apply Kd.R_drewN | apply Kd.R_drew)); exact HO_7.out⟩, ⟨by (with_reducible repeat (first | apply Kd.R_alloc | apply Kd.R_drewN | apply Kd.R_drew)); exact HO_8.out⟩, ⟨by (with_reducible repeat (first | apply Kd.R_alloc | apply Kd.R_drewN | apply Kd.R_drew)); exact HO_9.out⟩, ⟨bg BK471.out⟩, ⟨bs HB.out⟩⟩
         ·
          rw [if_neg c23] at H
          exact absurd H (by simp)
        ·
         rw [if_neg c22] at H
         have c22b0 : decide (x10_2 < (t473.length : Int)) = false := decide_eq_false c22
         clear c22
         replace H := Option.bind_eq_some_iff.mp H
         obtain ⟨t491, A290, H⟩ := H
         replace H : (if t491 = true then ((signalbenchlaw47_awake.f).bind fun t492 => (some t492)) else (some false)) = some r := H
         have A29 := Aside0.mk A290
         clear A290
         by_cases c30 : t491 = true
         ·
          subst c30
          have H1 : ((signalbenchlaw47_awake.f).bind fun t492 => (some t492)) = some r := by rw [if_pos rfl] at H; exact H
          clear H
          have H := H1
          clear H1
          replace H := Option.bind_eq_some_iff.mp H
          obtain ⟨t492, A310, H⟩ := H
          replace H : (some t492) = some r := H
          have A31 := Aside0.mk A310
          clear A310
          obtain rfl := Option.some.inj H
          obtain ⟨Ao32, co32, eo32⟩ := Kd.R_slice HO_7.out
          subst eo32
          obtain ⟨Ao33, co33, eo33⟩ := Kd.R_slice HO_8.out
          subst eo33
          obtain ⟨Ao34, co34, eo34⟩ := Kd.R_slice HO_9.out
          subst eo34
          go_wp2_with (first | ((with_reducible refine gate_callee (f := 29) rfl ?_); refine goesL_ (some 55) rfl rfl Try.func29 (by kernel_rfl) rfl #[.slice Ao33 t480.length co33, .slice Ao34 x9_2.length co34] rfl (by (try simp only [List.map_toArray, List.map_cons, List.map_nil]); first | done | rfl | (simp only [List.length_drop, List.length_take]; rfl)) ?_; (with_reducible refine (signalbenchlaw47_ints.calls k2 _ _ t480 _ _ x9_2 true _ ?side1 ?side2 ?side3 ?side4 A29.out).mono ?_); (case side1 => repeat (first | exact (Kd.R_reads' HO_8.out).2.2 | (with_reducible refine Kd.C_alloc ?_ _) | (with_reducible refine Kd.C_drewN ?_ _) | (with_reducible refine Kd.C_drew ?_))); (case side2 => exact (Kd.R_reads' HO_8.out).2.1); (case side3 => repeat (first | exact (Kd.R_reads' HO_9.out).2.2 | (with_reducible refine Kd.C_alloc ?_ _) | (with_reducible refine Kd.C_drewN ?_ _) | (with_reducible refine Kd.C_drew ?_))); (case side4 => exact (Kd.R_reads' HO_9.out).2.1); rintro e w' ⟨rfl, ⟨nd, rfl⟩⟩; refine ⟨_, rfl, ?_⟩) | (go_at_call 26; (with_reducible refine (signalbenchlaw47_awake.calls  t492 _ A31.out).mono ?_); rintro e w35 ⟨rfl, hb⟩; have n0_ := Aside0.mk (Kd.R_below (rq HO_7.out) hb); have n1_ := Aside0.mk (Kd.R_below (rq HO_8.out) hb); have n2_ := Aside0.mk (Kd.R_below (rq HO_9.out) hb); have n3_ := Aside0.mk (blk_below (bg BK471.out) hb); have n4_ := Aside0.mk (below_step (bs HB.out) hb); clear HO_7; clear HO_8; clear HO_9; clear BK471; clear HB; have HO_7 := n0_; have HO_8 := n1_; have HO_9 := n2_; have BK471 := n3_; have HB := n4_; clear n0_ n1_ n2_ n3_ n4_; (try clear hb); (try clear hb2); (try clear hk); (try clear hi)))
          go_ret
          exact ⟨by first | rfl | (simp [errW_none, errW_some] <;> rfl) | (simp [*, errW_none, errW_some] <;> rfl), bs HB.out⟩
         ·
          replace c30 := Bool.eq_false_iff.mpr c30
          subst c30
          have H1 : (some false) = some r := by rw [if_neg (show ¬ (false = true) by decide)] at H; exact H
          clear H
          have H := H1
          clear H1
          obtain rfl := Option.some.inj H
          obtain ⟨Ao36, co36, eo36⟩ := Kd.R_slice HO_7.out
          subst eo36
          obtain ⟨Ao37, co37, eo37⟩ := Kd.R_slice HO_8.out
          subst eo37
          obtain ⟨Ao38, co38, eo38⟩ := Kd.R_slice HO_9.out
          subst eo38
          go_wp2_with (first | ((with_reducible refine gate_callee (f := 29) rfl ?_); refine goesL_ (some 55) rfl rfl Try.func29 (by kernel_rfl) rfl #[.slice Ao37 t480.length co37, .slice Ao38 x9_2.length co38] rfl (by (try simp only [List.map_toArray, List.map_cons, List.map_nil]); first | done | rfl | (simp only [List.length_drop, List.length_take]; rfl)) ?_; (with_reducible refine (signalbenchlaw47_ints.calls k2 _ _ t480 _ _ x9_2 false _ ?side1 ?side2 ?side3 ?side4 A29.out).mono ?_); (case side1 => repeat (first | exact (Kd.R_reads' HO_8.out).2.2 | (with_reducible refine Kd.C_alloc ?_ _) | (with_reducible refine Kd.C_drewN ?_ _) | (with_reducible refine Kd.C_drew ?_))); (case side2 => exact (Kd.R_reads' HO_8.out).2.1); (case side3 => repeat (first | exact (Kd.R_reads' HO_9.out).2.2 | (with_reducible refine Kd.C_alloc ?_ _) | (with_reducible refine Kd.C_drewN ?_ _) | (with_reducible refine Kd.C_drew ?_))); (case side4 => exact (Kd.R_reads' HO_9.out).2.1); rintro e w' ⟨rfl, ⟨nd, rfl⟩⟩; refine ⟨_, rfl, ?_⟩))
          go_ret
          exact ⟨by first | rfl | (simp [errW_none, errW_some] <;> rfl) | (simp [*, errW_none, errW_some] <;> rfl), bs HB.out⟩
     ·
      rw [if_neg c13] at H
      exact absurd H (by simp)
    ·
     rw [if_neg c12] at H
     exact absurd H (by simp)

end Go.Proofs.Ytgdjiphljadlcaa.K
