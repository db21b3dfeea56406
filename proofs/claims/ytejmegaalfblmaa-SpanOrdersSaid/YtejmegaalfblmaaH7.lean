-- Printed by wip/hprint.py (this project's own driver of the kit's print) out of the translation; Lean checks it.
import Derived.Test.YtejmegaalfblmaaH0
import Derived.Test.YtejmegaalfblmaaH4
import Derived.Test.YtejmegaalfblmaaH5
import Derived.Test.YtejmegaalfblmaaH6
import Derived.Test.YtejmegaalfblmaaHJoin
namespace Go.Proofs.Ytejmegaalfblmaa.H
open Go.RowKit Go.Proofs.YtejmegaalfblmaaW.PrintWords Go.Proofs.YtejmegaalfblmaaW.PrintLast Go.Proofs.YtejmegaalfblmaaW.PrintMore
attribute [local go_sem] max2_int min2_int max_two min_two max_three min_three max_four min_four   -- for this text's walks alone
set_option linter.unusedVariables false
set_option linter.unusedSimpArgs false

/-! ### signalbenchlaw06_SpanOrders: function 3 -/
mutual
def signalbenchlaw06_SpanOrders.l0 : Nat → List (S25) → List (S25) → Int → Option (Bool)
 | 0, _, _, _ => none
 | k + 1, x0, x3, x4 => if x4 ≥ 0 then (if 0 ≤ x4 then (if x4 < (x0.length : Int) then ((some (([(⟨(rd_T25 x0 x4).f0, (rd_T25 x0 x4).f1⟩ : S25), (⟨(rd_T25 x0 x4).f0, (rd_T25 x0 x4).f1⟩ : S25)] : List (S25)) : List (S25))).bind fun y126 => (if x3.length + y126.length < 8796093022208 then (signalbenchlaw06_SpanOrders.l0 k x0 (x3 ++ y126) (wrap64 (x4 - 1))) else (none))) else (none)) else (none)) else ((span_Join.f x0).bind fun t132 => (signalbenchlaw06_SpanOrders.l1 k x0 x3 t132 0 0))
def signalbenchlaw06_SpanOrders.l1 : Nat → List (S25) → List (S25) → List (S25) → Int → Int → Option (Bool)
 | 0, _, _, _, _, _ => none
 | k + 1, x0, x3, x5, x6, x7 => if x7 < (x5.length : Int) then (if 0 ≤ x7 then (if ((rd_T25 x5 x7).f0) < 0 then (signalbenchlaw06_SpanOrders.j2 k x0 x3 x5 x6 x7 true) else (if ((rd_T25 x5 x7).f1) > 1099511627776 then (signalbenchlaw06_SpanOrders.j2 k x0 x3 x5 x6 x7 true) else (signalbenchlaw06_SpanOrders.j2 k x0 x3 x5 x6 x7 (decide (((rd_T25 x5 x7).f0) ≥ ((rd_T25 x5 x7).f1)))))) else (none)) else ((span_Join.f x3).bind fun t141 => ((signalbenchlaw06_same.f k t141 x5).bind fun t144 => (if t144 = true then ((span_Join.f x5).bind fun t145 => ((signalbenchlaw06_same.f k t145 x5).bind fun t148 => (if t148 = true then ((span_Total.f k x0).bind fun t149 => (some (t149 == x6))) else (some false)))) else (some false))))
def signalbenchlaw06_SpanOrders.j2 : Nat → List (S25) → List (S25) → List (S25) → Int → Int → Bool → Option (Bool)
 | 0, _, _, _, _, _, _ => none
 | k + 1, x0, x3, x5, x6, x7, x66 => if x66 = true then (some false) else (if 0 ≤ x7 then (if x7 < (x5.length : Int) then (if (wrap64 ((wrap64 (x6 + ((rd_T25 x5 x7).f1))) - ((rd_T25 x5 x7).f0))) > 1099511627776 then (some false) else (signalbenchlaw06_SpanOrders.l1 k x0 x3 x5 (wrap64 ((wrap64 (x6 + ((rd_T25 x5 x7).f1))) - ((rd_T25 x5 x7).f0))) (wrap64 (x7 + 1)))) else (none)) else (none))
end
def signalbenchlaw06_SpanOrders.f (k : Nat) (l0 : List (S25)) : Option (Bool) := (signalbenchlaw06_lives.f).bind fun t120 => (if t120 = true then (if (l0.length : Int) > 100 then (some true) else (signalbenchlaw06_SpanOrders.l0 k l0 (([] : List (S25))) (wrap64 ((l0.length : Int) - 1)))) else (some false))
theorem signalbenchlaw06_SpanOrders.mono_l : ∀ k, (∀ y0 y1 y2, LeO (signalbenchlaw06_SpanOrders.l0 k y0 y1 y2) (signalbenchlaw06_SpanOrders.l0 (k + 1) y0 y1 y2)) ∧ (∀ y0 y1 y2 y3 y4, LeO (signalbenchlaw06_SpanOrders.l1 k y0 y1 y2 y3 y4) (signalbenchlaw06_SpanOrders.l1 (k + 1) y0 y1 y2 y3 y4)) ∧ (∀ y0 y1 y2 y3 y4 y5, LeO (signalbenchlaw06_SpanOrders.j2 k y0 y1 y2 y3 y4 y5) (signalbenchlaw06_SpanOrders.j2 (k + 1) y0 y1 y2 y3 y4 y5))
 | 0 => ⟨fun _ _ _ r h => by simp [signalbenchlaw06_SpanOrders.l0] at h, fun _ _ _ _ _ r h => by simp [signalbenchlaw06_SpanOrders.l1] at h, fun _ _ _ _ _ _ r h => by simp [signalbenchlaw06_SpanOrders.j2] at h⟩
 | k + 1 => by
  obtain ⟨ih0, ih1, ih2⟩ := signalbenchlaw06_SpanOrders.mono_l k
  refine ⟨?_, ?_, ?_⟩
  ·
   intro y0 y1 y2
   unfold signalbenchlaw06_SpanOrders.l0
   repeat' first
   | (with_reducible exact ih0 _ _ _)
   | (with_reducible exact ih1 _ _ _ _ _)
   | (with_reducible exact ih2 _ _ _ _ _ _)
   | (with_reducible exact signalbenchlaw06_same.mono _ _ _)
   | (with_reducible exact span_Total.mono _ _)
   | (with_reducible exact LeO.refl _)
   | (with_reducible exact LeO.none _)
   | (with_reducible refine LeO.ite ?_ ?_)
   | (with_reducible refine LeO.bind ?_ (fun _ => ?_))
   | exact ih0 _ _ _
   | exact ih1 _ _ _ _ _
   | exact ih2 _ _ _ _ _ _
   | exact signalbenchlaw06_same.mono _ _ _
   | exact span_Total.mono _ _
   | exact LeO.none _
   | refine LeO.ite ?_ ?_
   | refine LeO.bind ?_ (fun _ => ?_)
  ·
   intro y0 y1 y2 y3 y4
   unfold signalbenchlaw06_SpanOrders.l1
   repeat' first
   | (with_reducible exact ih0 _ _ _)
   | (with_reducible exact ih1 _ _ _ _ _)
   | (with_reducible exact ih2 _ _ _ _ _ _)
   | (with_reducible exact signalbenchlaw06_same.mono _ _ _)
   | (with_reducible exact span_Total.mono _ _)
   | (with_reducible exact LeO.refl _)
   | (with_reducible exact LeO.none _)
   | (with_reducible refine LeO.ite ?_ ?_)
   | (with_reducible refine LeO.bind ?_ (fun _ => ?_))
   | exact ih0 _ _ _
   | exact ih1 _ _ _ _ _
   | exact ih2 _ _ _ _ _ _
   | exact signalbenchlaw06_same.mono _ _ _
   | exact span_Total.mono _ _
   | exact LeO.none _
   | refine LeO.ite ?_ ?_
   | refine LeO.bind ?_ (fun _ => ?_)
  ·
   intro y0 y1 y2 y3 y4 y5
   unfold signalbenchlaw06_SpanOrders.j2
   repeat' first
   | (with_reducible exact ih0 _ _ _)
   | (with_reducible exact ih1 _ _ _ _ _)
   | (with_reducible exact ih2 _ _ _ _ _ _)
   | (with_reducible exact signalbenchlaw06_same.mono _ _ _)
   | (with_reducible exact span_Total.mono _ _)
   | (with_reducible exact LeO.refl _)
   | (with_reducible exact LeO.none _)
   | (with_reducible refine LeO.ite ?_ ?_)
   | (with_reducible refine LeO.bind ?_ (fun _ => ?_))
   | exact ih0 _ _ _
   | exact ih1 _ _ _ _ _
   | exact ih2 _ _ _ _ _ _
   | exact signalbenchlaw06_same.mono _ _ _
   | exact span_Total.mono _ _
   | exact LeO.none _
   | refine LeO.ite ?_ ?_
   | refine LeO.bind ?_ (fun _ => ?_)
theorem signalbenchlaw06_SpanOrders.mono : ∀ a0 k, LeO (signalbenchlaw06_SpanOrders.f k a0) (signalbenchlaw06_SpanOrders.f (k + 1) a0) := by
 intro a0 k
 obtain ⟨ih0, ih1, ih2⟩ := signalbenchlaw06_SpanOrders.mono_l k
 unfold signalbenchlaw06_SpanOrders.f
 repeat' first
   | (with_reducible exact ih0 _ _ _)
   | (with_reducible exact ih1 _ _ _ _ _)
   | (with_reducible exact ih2 _ _ _ _ _ _)
   | (with_reducible exact signalbenchlaw06_same.mono _ _ _)
   | (with_reducible exact span_Total.mono _ _)
   | (with_reducible exact LeO.refl _)
   | (with_reducible exact LeO.none _)
   | (with_reducible refine LeO.ite ?_ ?_)
   | (with_reducible refine LeO.bind ?_ (fun _ => ?_))
   | exact ih0 _ _ _
   | exact ih1 _ _ _ _ _
   | exact ih2 _ _ _ _ _ _
   | exact signalbenchlaw06_same.mono _ _ _
   | exact span_Total.mono _ _
   | exact LeO.none _
   | refine LeO.ite ?_ ?_
   | refine LeO.bind ?_ (fun _ => ?_)
def signalbenchlaw06_SpanOrders.T9 : Bool × List (List Nat × List Nat) := (true, [([], []), ([], []), ([], []), ([1, 2], [1, 2]), ([3], [3]), ([], []), ([], []), ([5, 6], [5, 6]), ([7], [7]), ([4, 8], [4, 8]), ([0, 9], [0, 9]), ([10, 10, 0, 1, 2, 3, 4, 5, 6, 7, 8, 9, 10], [0, 10])])
def signalbenchlaw06_SpanOrders.B9 : List Nat := [0, 0, 0, 6, 14, 0, 0, 96, 224, 510, 1023, 2047]
theorem signalbenchlaw06_SpanOrders.tab9 : rtab .any (opsOf Try.f3 9) = signalbenchlaw06_SpanOrders.T9 := by kernel_rfl
theorem signalbenchlaw06_SpanOrders.bits9 : waitsOk signalbenchlaw06_SpanOrders.T9.2 signalbenchlaw06_SpanOrders.B9 = true := by kernel_rfl
def signalbenchlaw06_SpanOrders.T15 : Bool × List (List Nat × List Nat) := (true, [([], []), ([], []), ([0, 1], [0, 1]), ([2], [2]), ([3], [3]), ([4], [4]), ([5], [5]), ([6], [6]), ([6], [6]), ([7, 8, 6], [6, 7, 8]), ([9, 6], [6, 9]), ([10, 6], [6, 10]), ([11, 6], [6, 11]), ([6, 12], [6, 12]), ([13, 6], [13]), ([14], [14]), ([14], [14]), ([15, 16, 14], [14, 15, 16]), ([17, 14], [14, 17]), ([18, 14], [14, 18]), ([14], [14]), ([14], [14]), ([20, 21, 14], [14, 20, 21]), ([22, 14], [14, 22]), ([23, 14], [14, 23]), ([19, 24, 14], [14, 19, 24]), ([14, 25], [14, 25])])
def signalbenchlaw06_SpanOrders.B15 : List Nat := [0, 0, 3, 7, 15, 31, 63, 127, 127, 511, 1023, 2047, 4095, 8191, 16383, 32767, 32767, 131071, 262143, 524287, 32767, 32767, 3178495, 7372799, 15761407, 33554431, 67108863]
theorem signalbenchlaw06_SpanOrders.tab15 : rtab .any (opsOf Try.f3 15) = signalbenchlaw06_SpanOrders.T15 := by kernel_rfl
theorem signalbenchlaw06_SpanOrders.bits15 : waitsOk signalbenchlaw06_SpanOrders.T15.2 signalbenchlaw06_SpanOrders.B15 = true := by kernel_rfl
def signalbenchlaw06_SpanOrders.T17 : Bool × List (List Nat × List Nat) := (true, [([], []), ([], []), ([], []), ([1, 2], [1, 2]), ([3], [3]), ([4], [4]), ([0, 5], [0, 5]), ([], []), ([], []), ([7, 8], [7, 8]), ([9], [9]), ([10], [10]), ([6, 11], [6, 11]), ([12, 0, 1, 2, 3, 4, 5, 6, 7, 8, 9, 10, 11, 12], [0, 12])])
def signalbenchlaw06_SpanOrders.B17 : List Nat := [0, 0, 0, 6, 14, 30, 63, 0, 0, 384, 896, 1920, 4095, 8191]
theorem signalbenchlaw06_SpanOrders.tab17 : rtab .any (opsOf Try.f3 17) = signalbenchlaw06_SpanOrders.T17 := by kernel_rfl
theorem signalbenchlaw06_SpanOrders.bits17 : waitsOk signalbenchlaw06_SpanOrders.T17.2 signalbenchlaw06_SpanOrders.B17 = true := by kernel_rfl
set_option maxHeartbeats 8000000 in
set_option maxRecDepth 100000 in
theorem signalbenchlaw06_SpanOrders.calls (k : Nat) (A0 : Option Addr) (c0 : Nat) (l0 : List (S25)) (r : Bool) (w : World) (hr0 : Kd.C k25 w A0 l0.length l0) (hc0 : l0.length ≤ c0) (h : signalbenchlaw06_SpanOrders.f k l0 = some r) :
  Calls Try.prog 3 #[.slice A0 l0.length c0] w fun e w' => e = .returned (.bool r) ∧ Below w.heap.size w w' := by
 have hu25 := Try.underlying25
 have HR0 := Aside0.mk hr0
 have HC0 := Aside0.mk hc0
 clear hr0 hc0
 have HB := Aside0.mk (Below.refl w.heap.size w)
 have H : ((signalbenchlaw06_lives.f).bind fun t120 => (if t120 = true then (if (l0.length : Int) > 100 then (some true) else (signalbenchlaw06_SpanOrders.l0 k l0 (([] : List (S25))) (wrap64 ((l0.length : Int) - 1)))) else (some false))) = some r := h
 clear h
 replace H := Option.bind_eq_some_iff.mp H
 obtain ⟨t120, A20, H⟩ := H
 replace H : (if t120 = true then (if (l0.length : Int) > 100 then (some true) else (signalbenchlaw06_SpanOrders.l0 k l0 (([] : List (S25))) (wrap64 ((l0.length : Int) - 1)))) else (some false)) = some r := H
 have A2 := Aside0.mk A20
 clear A20
 by_cases c3 : t120 = true
 ·
  subst c3
  have H1 : (if (l0.length : Int) > 100 then (some true) else (signalbenchlaw06_SpanOrders.l0 k l0 (([] : List (S25))) (wrap64 ((l0.length : Int) - 1)))) = some r := by rw [if_pos rfl] at H; exact H
  clear H
  have H := H1
  clear H1
  by_cases c4 : (l0.length : Int) > 100
  ·
   rw [if_pos c4] at H
   have c4b0 : decide (100 < (l0.length : Int)) = true := decide_eq_true c4
   have c4b1 : decide (100 < l0.length) = true := decide_eq_true (by omega)
   clear c4
   obtain rfl := Option.some.inj H
   go_enter Try.func3, Try.ntmps3
   go_wp2_with (first | ((with_reducible refine gate_callee (f := 9) rfl ?_); refine goesL_ (some 8) rfl rfl Try.func9 (by kernel_rfl) rfl #[] rfl (by (try simp only [List.map_toArray, List.map_cons, List.map_nil]); first | done | rfl | (simp only [List.length_drop, List.length_take]; rfl)) ?_; (with_reducible refine (signalbenchlaw06_lives.calls  true _ A2.out).mono ?_); rintro e w5 ⟨rfl, hb⟩; refine ⟨_, rfl, ?_⟩; have n0_ := Aside0.mk (below_step (bs HB.out) hb); clear HB; have HB := n0_; clear n0_; (try clear hb); (try clear hb2); (try clear hk); (try clear hi)))
   go_ret
   exact ⟨by first | rfl | (simp [errW_none, errW_some] <;> rfl) | (simp [*, errW_none, errW_some] <;> rfl), bs HB.out⟩
  ·
   rw [if_neg c4] at H
   have c4b0 : decide (100 < (l0.length : Int)) = false := decide_eq_false c4
   have c4b1 : decide (100 < l0.length) = false := decide_eq_false (by omega)
   clear c4
   obtain ⟨y121, hy121⟩ : ∃ y_ : List (S25), y_ = (([] : List (S25))) := ⟨_, rfl⟩
   replace H : (signalbenchlaw06_SpanOrders.l0 k l0 y121 (wrap64 ((l0.length : Int) - 1))) = some r := by first | (rw [hy121]; with_reducible exact H) | (have H2_ := (Option.bind_some _ _).symm.trans H; rw [hy121]; with_reducible exact H2_) | (have H2_ := (Option.bind_some _ _).symm.trans H; with_reducible exact H2_) | with_reducible exact H | (rw [hy121]; exact H) | exact H
   have Ny121 := Aside0.mk hy121
   clear hy121
   have H' := Aside0.mk H
   clear H
   go_enter Try.func3, Try.ntmps3
   go_wp2_with (first | ((with_reducible refine gate_callee (f := 9) rfl ?_); refine goesL_ (some 8) rfl rfl Try.func9 (by kernel_rfl) rfl #[] rfl (by (try simp only [List.map_toArray, List.map_cons, List.map_nil]); first | done | rfl | (simp only [List.length_drop, List.length_take]; rfl)) ?_; (with_reducible refine (signalbenchlaw06_lives.calls  true _ A2.out).mono ?_); rintro e w6 ⟨rfl, hb⟩; refine ⟨_, rfl, ?_⟩; have n0_ := Aside0.mk (below_step (bs HB.out) hb); clear HB; have HB := n0_; clear n0_; (try clear hb); (try clear hb2); (try clear hk); (try clear hi)) | ((with_reducible refine gate_dst (N := 13) rfl ?_); refine Kd.R_lit k25 _ 25 ?hg (N := 13) ?hd (xs := ([] : List (S25))) (inner := []) (ok := fun _ => True) (okp := fun _ => True) ?hr ?hp (fun _ hk => hk) trivial (Below.refl _ _) (Nat.le_refl _) (by simp) ?_; (case hd => rfl); (case hg => rfl); (case hr => first | (go_simp; done) | (go_simp; rfl)); (case hp => exact (Reps.none _ _)); intro v122 w7 ho8 hb hg_ hnew_; clear hg_ hnew_; (first | rw [← Ny121.out] at ho8 | (simp only [Int.reduceToNat] at ho8; rw [← Ny121.out] at ho8)); have n0_ := Aside0.mk (Kd.R_lower ho8 (below_size (bs HB.out))); have n1_ := Aside0.mk (below_step (bs HB.out) hb); clear HB; have HO123 := n0_; have HB := n1_; clear n0_ n1_; clear hb ho8))
   go_loopg [3, 4] k (fun kq v3 v4 w' => ∃ (x3_1 : List (S25)) (x4_1 : Int), v4 = .int .i64 x4_1 ∧ Aside0 (signalbenchlaw06_SpanOrders.l0 kq l0 x3_1 x4_1 = some r) ∧ Aside0 (kq ≤ k) ∧ Aside0 (Kd.R k25 25 w' w.heap.size (fun _ => True) v3 x3_1) ∧ Aside0 (Below w.heap.size w w'))
   case atStart => exact ⟨(y121), (wrap64 ((l0.length : Int) - 1)), (by first | rfl | (simp; done) | (simp [*]; done)), H', ⟨Nat.le_refl _⟩, ⟨by (with_reducible repeat (first | apply Kd.R_alloc | apply Kd.R_drewN | apply Kd.R_drew)); exact HO123.out⟩, ⟨bs HB.out⟩⟩
   case round =>
    clear H'
    try clear p2
    try clear c3
    try clear c4
    try clear c4b0
    try clear c4b1
    try clear p6
    obtain ⟨x3_1, x4_1, rfl, HA, HK1, HO_3, HB⟩ := hrel
    cases gk with
    | zero => exact absurd HA.out (by simp [signalbenchlaw06_SpanOrders.l0])
    | succ k1 =>
     have H := HA.out
     clear HA
     simp only [signalbenchlaw06_SpanOrders.l0] at H
     by_cases c9 : x4_1 ≥ 0
     ·
      rw [if_pos c9] at H
      have c9b0 : decide (0 ≤ x4_1) = true := decide_eq_true c9
      clear c9
      by_cases c10 : 0 ≤ x4_1
      ·
       rw [if_pos c10] at H
       have c10b0 : decide (0 ≤ x4_1) = true := decide_eq_true c10
       clear c10
       by_cases c11 : x4_1 < (l0.length : Int)
       ·
        rw [if_pos c11] at H
        have c11b0 : decide (x4_1 < (l0.length : Int)) = true := decide_eq_true c11
        clear c11
        obtain ⟨y126, hy126⟩ : ∃ y_ : List (S25), y_ = (([(⟨(rd_T25 l0 x4_1).f0, (rd_T25 l0 x4_1).f1⟩ : S25), (⟨(rd_T25 l0 x4_1).f0, (rd_T25 l0 x4_1).f1⟩ : S25)] : List (S25))) := ⟨_, rfl⟩
        replace H : (if x3_1.length + y126.length < 8796093022208 then (signalbenchlaw06_SpanOrders.l0 k1 l0 (x3_1 ++ y126) (wrap64 (x4_1 - 1))) else (none)) = some r := by first | (rw [hy126]; with_reducible exact H) | (have H2_ := (Option.bind_some _ _).symm.trans H; rw [hy126]; with_reducible exact H2_) | (have H2_ := (Option.bind_some _ _).symm.trans H; with_reducible exact H2_) | with_reducible exact H | (rw [hy126]; exact H) | exact H
        have Ny126 := Aside0.mk hy126
        clear hy126
        by_cases c12 : x3_1.length + y126.length < 8796093022208
        ·
         rw [if_pos c12] at H
         have LMc12 := Aside0.mk c12
         clear c12
         obtain ⟨y129, hy129⟩ : ∃ y_ : List (S25), y_ = (x3_1 ++ y126) := ⟨_, rfl⟩
         replace H : (signalbenchlaw06_SpanOrders.l0 k1 l0 y129 (wrap64 (x4_1 - 1))) = some r := by first | (rw [hy129]; with_reducible exact H) | (have H2_ := (Option.bind_some _ _).symm.trans H; rw [hy129]; with_reducible exact H2_) | (have H2_ := (Option.bind_some _ _).symm.trans H; with_reducible exact H2_) | with_reducible exact H | (rw [hy129]; exact H) | exact H
         have Ny129 := Aside0.mk hy129
         clear hy129
         have H' := Aside0.mk H
         clear H
         try go_wp2
         have n0_ := Aside0.mk (Kd.R_drew HO_3.out)
         have n1_ := Aside0.mk (below_drew1 HB.out)
         clear HO_3
         clear HB
         have HO_3 := n0_
         have HB := n1_
         clear n0_ n1_
         have p124 : 0 ≤ (x4_1 : Int) := of_decide_eq_true (by first | (with_reducible assumption) | assumption)
         have q124 : x4_1 < (l0.length : Int) := of_decide_eq_true (by first | (with_reducible assumption) | assumption)
         obtain ⟨ad124, e124, hx124_0, hx124_1⟩ := at_T25 HR0.out x4_1 p124 q124
         have hw124_1 := hx124_1
         have hw124_0 := hx124_0
         cases e124
         replace hx124_0 := pw_cell_below HB.out hx124_0
         replace hx124_1 := pw_cell_below HB.out hx124_1
         replace p124 := eq_true p124
         replace q124 := eq_true q124
         have p125 : 0 ≤ (x4_1 : Int) := of_decide_eq_true (by first | (with_reducible assumption) | assumption)
         have q125 : x4_1 < (l0.length : Int) := of_decide_eq_true (by first | (with_reducible assumption) | assumption)
         obtain ⟨ad125, e125, hx125_0, hx125_1⟩ := at_T25 HR0.out x4_1 p125 q125
         have hw125_1 := hx125_1
         have hw125_0 := hx125_0
         obtain rfl : ad124 = ad125 := (by injection e125)
         replace hx125_0 := pw_cell_below HB.out hx125_0
         replace hx125_1 := pw_cell_below HB.out hx125_1
         replace p125 := eq_true p125
         replace q125 := eq_true q125
         refine start_ (n := 12) (S := fun w' => w'.cell? (ad124.add ((x4_1).toNat * 2)) = some (.int .i64 ((rd_T25 l0 x4_1).f0)) ∧ w'.cell? ⟨(ad124.add ((x4_1).toNat * 2)).block, (ad124.add ((x4_1).toNat * 2)).off + 1, none⟩ = some (.int .i64 ((rd_T25 l0 x4_1).f1)) ∧ w'.cell? (ad124.add ((x4_1).toNat * 2)) = some (.int .i64 ((rd_T25 l0 x4_1).f0)) ∧ w'.cell? ⟨(ad124.add ((x4_1).toNat * 2)).block, (ad124.add ((x4_1).toNat * 2)).off + 1, none⟩ = some (.int .i64 ((rd_T25 l0 x4_1).f1))) (ds := []) (bsq 0 12) (by kernel_rfl) rfl rfl ⟨((HB.out.cell (World.block_lt_of_cell? w _ hw124_0)).trans hw124_0), ((HB.out.cell (World.block_lt_of_cell? w _ hw124_1)).trans hw124_1), ((HB.out.cell (World.block_lt_of_cell? w _ hw125_0)).trans hw125_0), ((HB.out.cell (World.block_lt_of_cell? w _ hw125_1)).trans hw125_1)⟩ (fun hHeld => ?_); refine with_tabW signalbenchlaw06_SpanOrders.tab9 signalbenchlaw06_SpanOrders.bits9 (fun HT_ HW_ => ?_)
         generalize wr.drew = w13 at HO_3 HB hx124_0 hx124_1 hx125_0 hx125_1 hHeld ⊢
         refine pu 0 21 (bsq 1 11) ?_
         refine pu 1 22 (bsq 2 10) ?_
         refine pu 2 23 (bsq 3 9) ?_
         refine pu 3 24 (bsq 4 8) ?_
         refine pu 5 26 (bls [4, 1, 1, 6]) ?_
         refine pu 6 27 (bls [4, 1, 2, 5]) ?_
         refine pu 7 28 (bls [4, 1, 3, 4]) ?_
         refine tk 4 25 (bsq 8 4) hHeld ?_ (he := by rintro w' ⟨s0, s1, s2, s3⟩; go_simp; with_reducible rfl)
         refine tk 8 29 (bsq 9 3) hHeld ?_ (he := by rintro w' ⟨s0, s1, s2, s3⟩; go_simp; with_reducible rfl)
         refine one_ (i := 9) (N := some 30) (bsq 10 2) rfl rfl (one_of HT_.out (by kernel_rfl)) (by decide) (fun K hK => ?_)
         refine Kd.R_lit_step k25 _ 25 ?hg (N := 30) ?hd (xs := ([(⟨(rd_T25 l0 x4_1).f0, (rd_T25 l0 x4_1).f1⟩ : S25), (⟨(rd_T25 l0 x4_1).f0, (rd_T25 l0 x4_1).f1⟩ : S25)] : List (S25))) (inner := [.int .i64 ((rd_T25 l0 x4_1).f0), .int .i64 ((rd_T25 l0 x4_1).f1), .int .i64 ((rd_T25 l0 x4_1).f0), .int .i64 ((rd_T25 l0 x4_1).f1)]) (ok := fun _ => True) (okp := fun _ => True) ?hr ?hp (fun _ hk => hk) trivial (Below.refl _ _) (Nat.le_refl _) (by simp) ?_; (case hd => rfl); (case hg => rfl); (case hr => first | (go_simp; done) | (go_simp; rfl)); (case hp => exact (Reps.c2 (show Kd.M k25 _ _ _ (⟨(rd_T25 l0 x4_1).f0, (rd_T25 l0 x4_1).f1⟩ : S25) [.int .i64 ((rd_T25 l0 x4_1).f0), .int .i64 ((rd_T25 l0 x4_1).f1)] from (k25_mkM _ _ _ (⟨(rd_T25 l0 x4_1).f0, (rd_T25 l0 x4_1).f1⟩ : S25) )) (Reps.c2 (show Kd.M k25 _ _ _ (⟨(rd_T25 l0 x4_1).f0, (rd_T25 l0 x4_1).f1⟩ : S25) [.int .i64 ((rd_T25 l0 x4_1).f0), .int .i64 ((rd_T25 l0 x4_1).f1)] from (k25_mkM _ _ _ (⟨(rd_T25 l0 x4_1).f0, (rd_T25 l0 x4_1).f1⟩ : S25) )) (Reps.none _ _))))
         intro v127 w14 ho15 hb hg_ hnew_
         clear hg_ hnew_
         (first | rw [← Ny126.out] at ho15 | (simp only [Int.reduceToNat] at ho15; rw [← Ny126.out] at ho15))
         have n0_ := Aside0.mk (Kd.R_elder' (rq HO_3.out) (Kd.R_base ho15) hb)
         have n1_ := Aside0.mk (Kd.R_lower (Kd.R_new' ho15 (Kd.R_lt (rq HO_3.out))) (below_size (bs HB.out)))
         have n2_ := Aside0.mk (below_step (bs HB.out) hb)
         clear HO_3
         clear HB
         have HO_3 := n0_
         have HO128 := n1_
         have HB := n2_
         clear n0_ n1_ n2_
         clear hb ho15
         obtain ⟨Ao17, co17, eo17⟩ := Kd.R_slice HO128.out
         (first | subst eo17 | (injection eo17 with f1_ f2_ f3_; have f4_ := f1_.symm; have f5_ := f3_.symm; clear f1_ f2_ f3_; subst f4_; subst f5_))
         refine hK.out _ _ ⟨((HB.out.cell (World.block_lt_of_cell? w _ hw124_0)).trans hw124_0), ((HB.out.cell (World.block_lt_of_cell? w _ hw124_1)).trans hw124_1), ((HB.out.cell (World.block_lt_of_cell? w _ hw125_0)).trans hw125_0), ((HB.out.cell (World.block_lt_of_cell? w _ hw125_1)).trans hw125_1)⟩ (fun hHeld => ?_)
         clear hK K
         refine norm_ (a' := ?_) ?_ ?_
         rotate_left
         ·
          show Act.put _ (some 30) _ = _
          simp only [Act.put, List.setIfInBounds_toArray, List.set_cons_zero, List.set_cons_succ, i64_w, i32_w]
          rfl
         refine one_ (i := 10) (N := some 31) (bsq 11 1) rfl rfl (one_of HT_.out (by kernel_rfl)) (by decide) (fun K hK => ?_)
         refine Kd.R_append_rows_step k25 (w0 := w) w.heap.size (by rfl) (.tmp 21) (.tmp 30) 22 25 (.agg #[(.int .i64 0), (.int .i64 0)]) 16 rfl Try.underlying22 info25 rfl (by decide) (by omega) u3 x3_1 y126 _ _ _ (fun k_ => some k_ ≠ (.slice Ao17 y126.length co17 : Value).ownBlock) (fun _ => False) rfl rfl ?aO ?aR (fun _ _ h => h) (fun _ h => h.elim) ?aF ?aB ?aS ?aL ?_
         (case aR => repeat (first | exact (Kd.R_reads' HO128.out).2.2 | (with_reducible refine Kd.C_alloc ?_ _) | (with_reducible refine Kd.C_drewN ?_ _) | (with_reducible refine Kd.C_drew ?_)))
         (case aB => exact (bs HB.out))
         (case aF => exact (fun k_ hk => Kd.fresh' (Kd.R_lt (rq HO128.out)) k_ hk))
         (case aO => exact (by (with_reducible repeat (first | apply Kd.R_alloc | apply Kd.R_drewN | apply Kd.R_drew)); exact Kd.R_mono HO_3.out (fun _ hk => hk.2)))
         (case aS => exact (below_size (bs HB.out)))
         (case aL => have := LMc12.out; omega)
         intro v130 w16 ho hb hg hat
         rw [← Ny129.out] at ho
         have n0_ := Aside0.mk (Kd.R_after (ok := (fun _ => True)) (rq HO128.out) hg hat)
         have n1_ := Aside0.mk (hb)
         have n2_ := Aside0.mk (ho)
         clear HO128
         clear HB
         clear HO_3
         have HO128 := n0_
         have HB := n1_
         have HO131 := n2_
         clear n0_ n1_ n2_
         clear ho hb hg hat
         refine hK.out _ _ ⟨((HB.out.cell (World.block_lt_of_cell? w _ hw124_0)).trans hw124_0), ((HB.out.cell (World.block_lt_of_cell? w _ hw124_1)).trans hw124_1), ((HB.out.cell (World.block_lt_of_cell? w _ hw125_0)).trans hw125_0), ((HB.out.cell (World.block_lt_of_cell? w _ hw125_1)).trans hw125_1)⟩ (fun hHeld => ?_)
         clear hK K
         refine norm_ (a' := ?_) ?_ ?_
         rotate_left
         ·
          show Act.put _ (some 31) _ = _
          simp only [Act.put, List.setIfInBounds_toArray, List.set_cons_zero, List.set_cons_succ, i64_w, i32_w]
          rfl
         refine pu 11 3 (bsq 12 0) ?_
         refine done_ (done_of HT_.out (by kernel_rfl)) ?_
         try go_wp2
         go_roundg k1
         case measure => have := HK1.out; omega
         case rel => exact ⟨(y129), (wrap64 (x4_1 - 1)), (by first | rfl | (simp; done) | (simp [*]; done)), H', ⟨by have := HK1.out; omega⟩, ⟨by (with_reducible repeat (first | apply Kd.R_alloc | apply Kd.R_drewN | apply Kd.R_drew)); exact Kd.R_mono HO131.out (fun _ hk => trivial)⟩, ⟨bs HB.out⟩⟩
        ·
         rw [if_neg c12] at H
         exact absurd H (by simp)
       ·
        rw [if_neg c11] at H
        exact absurd H (by simp)
      ·
       rw [if_neg c10] at H
       exact absurd H (by simp)
     ·
      rw [if_neg c9] at H
      have c9b0 : decide (0 ≤ x4_1) = false := decide_eq_false c9
      clear c9
      replace H := Option.bind_eq_some_iff.mp H
      obtain ⟨t132, A180, H⟩ := H
      replace H : (signalbenchlaw06_SpanOrders.l1 k1 l0 x3_1 t132 0 0) = some r := H
      have A18 := Aside0.mk A180
      clear A180
      have H' := Aside0.mk H
      clear H
      go_wp2_with (first | ((with_reducible refine gate_callee (f := 10) rfl ?_); refine goesL_ (some 33) rfl rfl Try.func10 (by kernel_rfl) rfl #[.slice A0 l0.length c0] rfl (by (try simp only [List.map_toArray, List.map_cons, List.map_nil]); first | done | rfl | (simp only [List.length_drop, List.length_take]; rfl)) ?_; (with_reducible refine (span_Join.calls _ _ l0 t132 _ ?side1 ?side2 A18.out).mono ?_); (case side1 => repeat (first | exact (Kd.C_below HR0.out HB.out) | (with_reducible refine Kd.C_alloc ?_ _) | (with_reducible refine Kd.C_drewN ?_ _) | (with_reducible refine Kd.C_drew ?_))); (case side2 => exact HC0.out); rintro e w19 ⟨v133, rfl, ho0, hb⟩; refine ⟨_, rfl, ?_⟩; have n0_ := Aside0.mk (Kd.R_elder' (rq HO_3.out) (Kd.R_base ho0) hb); have n1_ := Aside0.mk (Kd.R_lower (Kd.R_new' ho0 (Kd.R_lt (rq HO_3.out))) (below_size (bs HB.out))); have n2_ := Aside0.mk (below_step (bs HB.out) hb); clear HO_3; clear HB; have HO_3 := n0_; have HO134 := n1_; have HB := n2_; clear n0_ n1_ n2_; (try clear hb); (try clear hb2); (try clear hk); (try clear hi); (try clear ho0)))
      go_loopg [6, 7] k1 (fun kq v6 v7 w' => ∃ (x6_2 : Int) (x7_2 : Int), v6 = .int .i64 x6_2 ∧ v7 = .int .i64 x7_2 ∧ Aside0 (signalbenchlaw06_SpanOrders.l1 kq l0 x3_1 t132 x6_2 x7_2 = some r) ∧ Aside0 (kq ≤ k1) ∧ Aside0 (Kd.R k25 25 w' w.heap.size (fun k_ => some k_ ≠ (v133 : Value).ownBlock) u3 x3_1) ∧ Aside0 (Kd.R k25 25 w' w.heap.size (fun k_ => some k_ ≠ (u3 : Value).ownBlock) v133 t132) ∧ Aside0 (Below w.heap.size w w'))
      case atStart => exact ⟨(0), (0), (by first | rfl | (simp; done) | (simp [*]; done)), (by first | rfl | (simp; done) | (simp [*]; done)), H', ⟨Nat.le_refl _⟩, ⟨by (with_reducible repeat (first | apply Kd.R_alloc | apply Kd.R_drewN | apply Kd.R_drew)); exact Kd.R_mono HO_3.out (fun _ hk => hk.2)⟩, ⟨by (with_reducible repeat (first | apply Kd.R_alloc | apply Kd.R_drewN | apply Kd.R_drew)); exact Kd.R_mono HO134.out (fun _ hk => hk.2)⟩, ⟨bs HB.out⟩⟩
      case round =>
       clear H'
       try clear c1
       try clear p1
       try clear q1
       try clear hx1
       try clear c2
       try clear p2
       try clear c3
       try clear c4
       try clear c4b0
       try clear c4b1
       try clear p6
       try clear c9
       try clear c9b0
       try clear c10
       try clear c10b0
       try clear c11
       try clear c11b0
       try clear c12
       try clear p12
       try clear q12
       try clear hx12
       try clear hx124_0
       try clear hx124_1
       try clear hx125_0
       try clear hx125_1
       try clear p124
       try clear p125
       try clear p2
       try clear p6
       try clear q124
       try clear q125
       obtain ⟨x6_2, x7_2, rfl, rfl, HA, HK2, HO_3, HO_5, HB⟩ := hrel
       cases gk with
       | zero => exact absurd HA.out (by simp [signalbenchlaw06_SpanOrders.l1])
       | succ k2 =>
        have H := HA.out
        clear HA
        simp only [signalbenchlaw06_SpanOrders.l1] at H
        by_cases c20 : x7_2 < (t132.length : Int)
        ·
         rw [if_pos c20] at H
         have c20b0 : decide (x7_2 < (t132.length : Int)) = true := decide_eq_true c20
         clear c20
         have HC21 := Aside0.mk H
         clear H
         obtain ⟨Ao22, co22, eo22⟩ := Kd.R_slice HO_5.out
         subst eo22
         go_upto_region 15 with (fail)
         go_cut [66] (fun v66 wc => ∃ (kq : Nat) (x66_20 : Bool), v66 = .bool x66_20 ∧ Aside0 (signalbenchlaw06_SpanOrders.j2 kq l0 x3_1 t132 x6_2 x7_2 x66_20 = some r) ∧ Aside0 (kq ≤ k2) ∧ Aside0 (Kd.R k25 25 wc w.heap.size (fun k_ => some k_ ≠ ((.slice Ao22 t132.length co22) : Value).ownBlock) u3 x3_1) ∧ Aside0 (Kd.R k25 25 wc w.heap.size (fun k_ => some k_ ≠ (u3 : Value).ownBlock) (.slice Ao22 t132.length co22) t132) ∧ Aside0 (Below w.heap.size w wc))
         case first =>
          have H := HC21.out
          clear HC21
          by_cases c23 : 0 ≤ x7_2
          ·
           rw [if_pos c23] at H
           have c23b0 : decide (0 ≤ x7_2) = true := decide_eq_true c23
           clear c23
           (first | rw [c23b0] | (simp only [i64_w, i32_w]; rw [c23b0]) | skip)
           by_cases c24 : ((rd_T25 t132 x7_2).f0) < 0
           ·
            rw [if_pos c24] at H
            have c24b0 : decide (((rd_T25 t132 x7_2).f0) < 0) = true := decide_eq_true c24
            clear c24
            have H' := Aside0.mk H
            clear H
            try go_wp2
            have n0_ := Aside0.mk (Kd.R_drew HO_3.out)
            have n1_ := Aside0.mk (Kd.R_drew HO_5.out)
            have n2_ := Aside0.mk (below_drew1 HB.out)
            clear HO_3
            clear HO_5
            clear HB
            have HO_3 := n0_
            have HO_5 := n1_
            have HB := n2_
            clear n0_ n1_ n2_
            have p135 : 0 ≤ (x7_2 : Int) := of_decide_eq_true (by first | (with_reducible assumption) | assumption)
            have q135 : x7_2 < (t132.length : Int) := of_decide_eq_true (by first | (with_reducible assumption) | assumption)
            obtain ⟨ad135, e135, hx135_0, hx135_1⟩ := at_T25 (Kd.R_reads' HO_5.out).2.2 x7_2 p135 q135
            cases e135
            replace p135 := eq_true p135
            replace q135 := eq_true q135
            refine start_ (n := 27) (S := fun w' => w'.cell? (ad135.add ((x7_2).toNat * 2)) = some (.int .i64 ((rd_T25 t132 x7_2).f0)) ∧ w'.cell? ⟨(ad135.add ((x7_2).toNat * 2)).block, (ad135.add ((x7_2).toNat * 2)).off + 1, none⟩ = some (.int .i64 ((rd_T25 t132 x7_2).f1))) (ds := []) (bsq 0 27) (by kernel_rfl) rfl rfl ⟨hx135_0, hx135_1⟩ (fun hHeld => ?_); refine with_tabW signalbenchlaw06_SpanOrders.tab15 signalbenchlaw06_SpanOrders.bits15 (fun HT_ HW_ => ?_)
            generalize wr.drew = w25 at HO_3 HO_5 HB hx135_0 hx135_1 hHeld ⊢
            refine pu 0 40 (bsq 1 26) ?_
            refine pu 1 41 (bsq 2 25) ?_
            refine pu 2 42 (bsq 3 24) ?_
            refine pu 3 43 (bsq 4 23) ?_
            refine tk 4 44 (bsq 5 22) hHeld ?_ (he := by rintro w' ⟨s0, s1⟩; go_simp; with_reducible rfl)
            refine pu 5 45 (bsq 6 21) ?_
            refine pu 6 46 (bsq 7 20) ?_
            refine un 7 47 (bsq 8 19) ?_
            refine un 8 48 (bsq 9 18) ?_
            refine un 9 49 (bsq 10 17) ?_
            refine un 10 50 (bsq 11 16) ?_
            refine un 11 51 (bsq 12 15) ?_
            refine un 12 52 (bsq 13 14) ?_
            refine pu 13 53 (bsq 14 13) ?_
            refine pu 14 54 (bsq 15 12) ?_
            refine un 15 55 (bsq 16 11) ?_
            refine un 16 56 (bsq 17 10) ?_
            refine un 17 57 (bsq 18 9) ?_
            refine un 18 58 (bsq 19 8) ?_
            refine un 19 59 (bsq 20 7) ?_
            refine un 20 60 (bsq 21 6) ?_
            refine un 21 61 (bsq 22 5) ?_
            refine un 22 62 (bsq 23 4) ?_
            refine un 23 63 (bsq 24 3) ?_
            refine un 24 64 (bsq 25 2) ?_
            refine un 25 65 (bsq 26 1) ?_
            refine pu 26 66 (bsq 27 0) ?_
            refine done_ (done_of HT_.out (by kernel_rfl)) ?_
            try go_wp2
            go_meet
            case rel => exact ⟨_, (true), (by first | rfl | (simp; done) | (simp [*]; done)), H', ⟨by have := HK1.out; have := HK2.out; first | omega | exact Nat.le_refl _⟩, ⟨by (with_reducible repeat (first | apply Kd.R_alloc | apply Kd.R_drewN | apply Kd.R_drew)); exact HO_3.out⟩, ⟨by (with_reducible repeat (first | apply Kd.R_alloc | apply Kd.R_drewN | apply Kd.R_drew)); exact HO_5.out⟩, ⟨bs HB.out⟩⟩
           ·
            rw [if_neg c24] at H
            have c24b0 : decide (((rd_T25 t132 x7_2).f0) < 0) = false := decide_eq_false c24
            clear c24
            by_cases c26 : ((rd_T25 t132 x7_2).f1) > 1099511627776
            ·
             rw [if_pos c26] at H
             have c26b0 : decide (1099511627776 < ((rd_T25 t132 x7_2).f1)) = true := decide_eq_true c26
             clear c26
             have H' := Aside0.mk H
             clear H
             try go_wp2
             have n0_ := Aside0.mk (Kd.R_drew HO_3.out)
             have n1_ := Aside0.mk (Kd.R_drew HO_5.out)
             have n2_ := Aside0.mk (below_drew1 HB.out)
             clear HO_3
             clear HO_5
             clear HB
             have HO_3 := n0_
             have HO_5 := n1_
             have HB := n2_
             clear n0_ n1_ n2_
             have p135 : 0 ≤ (x7_2 : Int) := of_decide_eq_true (by first | (with_reducible assumption) | assumption)
             have q135 : x7_2 < (t132.length : Int) := of_decide_eq_true (by first | (with_reducible assumption) | assumption)
             obtain ⟨ad135, e135, hx135_0, hx135_1⟩ := at_T25 (Kd.R_reads' HO_5.out).2.2 x7_2 p135 q135
             cases e135
             replace p135 := eq_true p135
             replace q135 := eq_true q135
             have p136 : 0 ≤ (x7_2 : Int) := of_decide_eq_true (by first | (with_reducible assumption) | assumption)
             have q136 : x7_2 < (t132.length : Int) := of_decide_eq_true (by first | (with_reducible assumption) | assumption)
             obtain ⟨ad136, e136, hx136_0, hx136_1⟩ := at_T25 (Kd.R_reads' HO_5.out).2.2 x7_2 p136 q136
             obtain rfl : ad135 = ad136 := (by injection e136)
             replace p136 := eq_true p136
             replace q136 := eq_true q136
             refine start_ (n := 27) (S := fun w' => w'.cell? (ad135.add ((x7_2).toNat * 2)) = some (.int .i64 ((rd_T25 t132 x7_2).f0)) ∧ w'.cell? ⟨(ad135.add ((x7_2).toNat * 2)).block, (ad135.add ((x7_2).toNat * 2)).off + 1, none⟩ = some (.int .i64 ((rd_T25 t132 x7_2).f1)) ∧ w'.cell? (ad135.add ((x7_2).toNat * 2)) = some (.int .i64 ((rd_T25 t132 x7_2).f0)) ∧ w'.cell? ⟨(ad135.add ((x7_2).toNat * 2)).block, (ad135.add ((x7_2).toNat * 2)).off + 1, none⟩ = some (.int .i64 ((rd_T25 t132 x7_2).f1))) (ds := []) (bsq 0 27) (by kernel_rfl) rfl rfl ⟨hx135_0, hx135_1, hx136_0, hx136_1⟩ (fun hHeld => ?_); refine with_tabW signalbenchlaw06_SpanOrders.tab15 signalbenchlaw06_SpanOrders.bits15 (fun HT_ HW_ => ?_)
             generalize wr.drew = w27 at HO_3 HO_5 HB hx135_0 hx135_1 hx136_0 hx136_1 hHeld ⊢
             refine pu 0 40 (bsq 1 26) ?_
             refine pu 1 41 (bsq 2 25) ?_
             refine pu 2 42 (bsq 3 24) ?_
             refine pu 3 43 (bsq 4 23) ?_
             refine tk 4 44 (bsq 5 22) hHeld ?_ (he := by rintro w' ⟨s0, s1, s2, s3⟩; go_simp; with_reducible rfl)
             refine pu 5 45 (bsq 6 21) ?_
             refine pu 6 46 (bsq 7 20) ?_
             refine pu 7 47 (bsq 8 19) ?_
             refine pu 8 48 (bsq 9 18) ?_
             refine pu 9 49 (bsq 10 17) ?_
             refine pu 10 50 (bsq 11 16) ?_
             refine tk 11 51 (bsq 12 15) hHeld ?_ (he := by rintro w' ⟨s0, s1, s2, s3⟩; go_simp; with_reducible rfl)
             refine pu 12 52 (bsq 13 14) ?_
             refine pu 13 53 (bsq 14 13) ?_
             refine pu 14 54 (bsq 15 12) ?_
             refine un 15 55 (bsq 16 11) ?_
             refine un 16 56 (bsq 17 10) ?_
             refine un 17 57 (bsq 18 9) ?_
             refine un 18 58 (bsq 19 8) ?_
             refine un 19 59 (bsq 20 7) ?_
             refine un 20 60 (bsq 21 6) ?_
             refine un 21 61 (bsq 22 5) ?_
             refine un 22 62 (bsq 23 4) ?_
             refine un 23 63 (bsq 24 3) ?_
             refine un 24 64 (bsq 25 2) ?_
             refine un 25 65 (bsq 26 1) ?_
             refine pu 26 66 (bsq 27 0) ?_
             refine done_ (done_of HT_.out (by kernel_rfl)) ?_
             try go_wp2
             go_meet
             case rel => exact ⟨_, (true), (by first | rfl | (simp; done) | (simp [*]; done)), H', ⟨by have := HK1.out; have := HK2.out; first | omega | exact Nat.le_refl _⟩, ⟨by (with_reducible repeat (first | apply Kd.R_alloc | apply Kd.R_drewN | apply Kd.R_drew)); exact HO_3.out⟩, ⟨by (with_reducible repeat (first | apply Kd.R_alloc | apply Kd.R_drewN | apply Kd.R_drew)); exact HO_5.out⟩, ⟨bs HB.out⟩⟩
            ·
             rw [if_neg c26] at H
             have c26b0 : decide (1099511627776 < ((rd_T25 t132 x7_2).f1)) = false := decide_eq_false c26
             clear c26
             have H' := Aside0.mk H
             clear H
             try go_wp2
             have n0_ := Aside0.mk (Kd.R_drew HO_3.out)
             have n1_ := Aside0.mk (Kd.R_drew HO_5.out)
             have n2_ := Aside0.mk (below_drew1 HB.out)
             clear HO_3
             clear HO_5
             clear HB
             have HO_3 := n0_
             have HO_5 := n1_
             have HB := n2_
             clear n0_ n1_ n2_
             have p135 : 0 ≤ (x7_2 : Int) := of_decide_eq_true (by first | (with_reducible assumption) | assumption)
             have q135 : x7_2 < (t132.length : Int) := of_decide_eq_true (by first | (with_reducible assumption) | assumption)
             obtain ⟨ad135, e135, hx135_0, hx135_1⟩ := at_T25 (Kd.R_reads' HO_5.out).2.2 x7_2 p135 q135
             cases e135
             replace p135 := eq_true p135
             replace q135 := eq_true q135
             have p136 : 0 ≤ (x7_2 : Int) := of_decide_eq_true (by first | (with_reducible assumption) | assumption)
             have q136 : x7_2 < (t132.length : Int) := of_decide_eq_true (by first | (with_reducible assumption) | assumption)
             obtain ⟨ad136, e136, hx136_0, hx136_1⟩ := at_T25 (Kd.R_reads' HO_5.out).2.2 x7_2 p136 q136
             obtain rfl : ad135 = ad136 := (by injection e136)
             replace p136 := eq_true p136
             replace q136 := eq_true q136
             have p137 : 0 ≤ (x7_2 : Int) := of_decide_eq_true (by first | (with_reducible assumption) | assumption)
             have q137 : x7_2 < (t132.length : Int) := of_decide_eq_true (by first | (with_reducible assumption) | assumption)
             obtain ⟨ad137, e137, hx137_0, hx137_1⟩ := at_T25 (Kd.R_reads' HO_5.out).2.2 x7_2 p137 q137
             obtain rfl : ad135 = ad137 := (by injection e137)
             replace p137 := eq_true p137
             replace q137 := eq_true q137
             have p138 : 0 ≤ (x7_2 : Int) := of_decide_eq_true (by first | (with_reducible assumption) | assumption)
             have q138 : x7_2 < (t132.length : Int) := of_decide_eq_true (by first | (with_reducible assumption) | assumption)
             obtain ⟨ad138, e138, hx138_0, hx138_1⟩ := at_T25 (Kd.R_reads' HO_5.out).2.2 x7_2 p138 q138
             obtain rfl : ad135 = ad138 := (by injection e138)
             replace p138 := eq_true p138
             replace q138 := eq_true q138
             refine start_ (n := 27) (S := fun w' => w'.cell? (ad135.add ((x7_2).toNat * 2)) = some (.int .i64 ((rd_T25 t132 x7_2).f0)) ∧ w'.cell? ⟨(ad135.add ((x7_2).toNat * 2)).block, (ad135.add ((x7_2).toNat * 2)).off + 1, none⟩ = some (.int .i64 ((rd_T25 t132 x7_2).f1)) ∧ w'.cell? (ad135.add ((x7_2).toNat * 2)) = some (.int .i64 ((rd_T25 t132 x7_2).f0)) ∧ w'.cell? ⟨(ad135.add ((x7_2).toNat * 2)).block, (ad135.add ((x7_2).toNat * 2)).off + 1, none⟩ = some (.int .i64 ((rd_T25 t132 x7_2).f1)) ∧ w'.cell? (ad135.add ((x7_2).toNat * 2)) = some (.int .i64 ((rd_T25 t132 x7_2).f0)) ∧ w'.cell? ⟨(ad135.add ((x7_2).toNat * 2)).block, (ad135.add ((x7_2).toNat * 2)).off + 1, none⟩ = some (.int .i64 ((rd_T25 t132 x7_2).f1)) ∧ w'.cell? (ad135.add ((x7_2).toNat * 2)) = some (.int .i64 ((rd_T25 t132 x7_2).f0)) ∧ w'.cell? ⟨(ad135.add ((x7_2).toNat * 2)).block, (ad135.add ((x7_2).toNat * 2)).off + 1, none⟩ = some (.int .i64 ((rd_T25 t132 x7_2).f1))) (ds := []) (bsq 0 27) (by kernel_rfl) rfl rfl ⟨hx135_0, hx135_1, hx136_0, hx136_1, hx137_0, hx137_1, hx138_0, hx138_1⟩ (fun hHeld => ?_); refine with_tabW signalbenchlaw06_SpanOrders.tab15 signalbenchlaw06_SpanOrders.bits15 (fun HT_ HW_ => ?_)
             generalize wr.drew = w28 at HO_3 HO_5 HB hx135_0 hx135_1 hx136_0 hx136_1 hx137_0 hx137_1 hx138_0 hx138_1 hHeld ⊢
             refine pu 0 40 (bsq 1 26) ?_
             refine pu 1 41 (bsq 2 25) ?_
             refine pu 2 42 (bsq 3 24) ?_
             refine pu 3 43 (bsq 4 23) ?_
             refine tk 4 44 (bsq 5 22) hHeld ?_ (he := by rintro w' ⟨s0, s1, s2, s3, s4, s5, s6, s7⟩; go_simp; with_reducible rfl)
             refine pu 5 45 (bsq 6 21) ?_
             refine pu 6 46 (bsq 7 20) ?_
             refine pu 7 47 (bsq 8 19) ?_
             refine pu 8 48 (bsq 9 18) ?_
             refine pu 9 49 (bsq 10 17) ?_
             refine pu 10 50 (bsq 11 16) ?_
             refine tk 11 51 (bsq 12 15) hHeld ?_ (he := by rintro w' ⟨s0, s1, s2, s3, s4, s5, s6, s7⟩; go_simp; with_reducible rfl)
             refine pu 12 52 (bsq 13 14) ?_
             refine pu 13 53 (bsq 14 13) ?_
             refine pu 14 54 (bsq 15 12) ?_
             refine pu 15 55 (bsq 16 11) ?_
             refine pu 16 56 (bsq 17 10) ?_
             refine pu 17 57 (bsq 18 9) ?_
             refine pu 18 58 (bsq 19 8) ?_
             refine pu 20 60 (bls [19, 1, 1, 6]) ?_
             refine pu 21 61 (bls [19, 1, 2, 5]) ?_
             refine pu 22 62 (bls [19, 1, 3, 4]) ?_
             refine pu 23 63 (bls [19, 1, 4, 3]) ?_
             refine tk 19 59 (bsq 24 3) hHeld ?_ (he := by rintro w' ⟨s0, s1, s2, s3, s4, s5, s6, s7⟩; go_simp; with_reducible rfl)
             refine tk 24 64 (bsq 25 2) hHeld ?_ (he := by rintro w' ⟨s0, s1, s2, s3, s4, s5, s6, s7⟩; go_simp; with_reducible rfl)
             refine pu 25 65 (bsq 26 1) ?_
             refine pu 26 66 (bsq 27 0) ?_
             refine done_ (done_of HT_.out (by kernel_rfl)) ?_
             try go_wp2
             go_meet
             case rel => exact ⟨_, (decide (((rd_T25 t132 x7_2).f0) ≥ ((rd_T25 t132 x7_2).f1))), (by first | rfl | (simp; done) | (simp [*]; done)), H', ⟨by have := HK1.out; have := HK2.out; first | omega | exact Nat.le_refl _⟩, ⟨by (with_reducible repeat (first | apply Kd.R_alloc | apply Kd.R_drewN | apply Kd.R_drew)); exact HO_3.out⟩, ⟨by (with_reducible repeat (first | apply Kd.R_alloc | apply Kd.R_drewN | apply Kd.R_drew)); exact HO_5.out⟩, ⟨bs HB.out⟩⟩
          ·
           rw [if_neg c23] at H
           exact absurd H (by simp)
         case rest =>
          clear HC21
          try clear p1
          try clear q1
          try clear hx1
          try clear c2
          try clear p2
          try clear p13
          try clear q13
          try clear hx13
          try clear c23
          try clear c24
          try clear c24b0
          try clear c26
          try clear c26b0
          try clear hx135_0
          try clear hx135_1
          try clear hx136_0
          try clear hx136_1
          try clear hx137_0
          try clear hx137_1
          try clear hx138_0
          try clear hx138_1
          try clear p135
          try clear p136
          try clear p137
          try clear p138
          try clear q135
          try clear q136
          try clear q137
          try clear q138
          obtain ⟨kq, x66_20, rfl, HA, HJ20, HO_3, HO_5, HB⟩ := hcut
          cases kq with
          | zero => exact absurd HA.out (by simp [signalbenchlaw06_SpanOrders.j2])
          | succ kj20 =>
           have H := HA.out
           clear HA
           simp only [signalbenchlaw06_SpanOrders.j2] at H
           by_cases c29 : x66_20 = true
           ·
            subst c29
            have H1 : (some false) = some r := by rw [if_pos rfl] at H; exact H
            clear H
            have H := H1
            clear H1
            obtain rfl := Option.some.inj H
            go_wp2
            go_ret
            exact ⟨by first | rfl | (simp [errW_none, errW_some] <;> rfl) | (simp [*, errW_none, errW_some] <;> rfl), bs HB.out⟩
           ·
            replace c29 := Bool.eq_false_iff.mpr c29
            subst c29
            have H1 : (if 0 ≤ x7_2 then (if x7_2 < (t132.length : Int) then (if (wrap64 ((wrap64 (x6_2 + ((rd_T25 t132 x7_2).f1))) - ((rd_T25 t132 x7_2).f0))) > 1099511627776 then (some false) else (signalbenchlaw06_SpanOrders.l1 kj20 l0 x3_1 t132 (wrap64 ((wrap64 (x6_2 + ((rd_T25 t132 x7_2).f1))) - ((rd_T25 t132 x7_2).f0))) (wrap64 (x7_2 + 1)))) else (none)) else (none)) = some r := by rw [if_neg (show ¬ (false = true) by decide)] at H; exact H
            clear H
            have H := H1
            clear H1
            by_cases c30 : 0 ≤ x7_2
            ·
             rw [if_pos c30] at H
             have c30b0 : decide (0 ≤ x7_2) = true := decide_eq_true c30
             clear c30
             by_cases c31 : x7_2 < (t132.length : Int)
             ·
              rw [if_pos c31] at H
              have c31b0 : decide (x7_2 < (t132.length : Int)) = true := decide_eq_true c31
              clear c31
              by_cases c32 : (wrap64 ((wrap64 (x6_2 + ((rd_T25 t132 x7_2).f1))) - ((rd_T25 t132 x7_2).f0))) > 1099511627776
              ·
               rw [if_pos c32] at H
               have c32b0 : decide (1099511627776 < (wrap64 ((wrap64 (x6_2 + ((rd_T25 t132 x7_2).f1))) - ((rd_T25 t132 x7_2).f0)))) = true := decide_eq_true c32
               clear c32
               obtain rfl := Option.some.inj H
               try go_wp2
               have n0_ := Aside0.mk (Kd.R_drew HO_3.out)
               have n1_ := Aside0.mk (Kd.R_drew HO_5.out)
               have n2_ := Aside0.mk (below_drew1 HB.out)
               clear HO_3
               clear HO_5
               clear HB
               have HO_3 := n0_
               have HO_5 := n1_
               have HB := n2_
               clear n0_ n1_ n2_
               have p139 : 0 ≤ (x7_2 : Int) := of_decide_eq_true (by first | (with_reducible assumption) | assumption)
               have q139 : x7_2 < (t132.length : Int) := of_decide_eq_true (by first | (with_reducible assumption) | assumption)
               obtain ⟨ad139, e139, hx139_0, hx139_1⟩ := at_T25 (Kd.R_reads' HO_5.out).2.2 x7_2 p139 q139
               cases e139
               replace p139 := eq_true p139
               replace q139 := eq_true q139
               have p140 : 0 ≤ (x7_2 : Int) := of_decide_eq_true (by first | (with_reducible assumption) | assumption)
               have q140 : x7_2 < (t132.length : Int) := of_decide_eq_true (by first | (with_reducible assumption) | assumption)
               obtain ⟨ad140, e140, hx140_0, hx140_1⟩ := at_T25 (Kd.R_reads' HO_5.out).2.2 x7_2 p140 q140
               obtain rfl : ad139 = ad140 := (by injection e140)
               replace p140 := eq_true p140
               replace q140 := eq_true q140
               refine start_ (n := 14) (S := fun w' => w'.cell? (ad139.add ((x7_2).toNat * 2)) = some (.int .i64 ((rd_T25 t132 x7_2).f0)) ∧ w'.cell? ⟨(ad139.add ((x7_2).toNat * 2)).block, (ad139.add ((x7_2).toNat * 2)).off + 1, none⟩ = some (.int .i64 ((rd_T25 t132 x7_2).f1)) ∧ w'.cell? (ad139.add ((x7_2).toNat * 2)) = some (.int .i64 ((rd_T25 t132 x7_2).f0)) ∧ w'.cell? ⟨(ad139.add ((x7_2).toNat * 2)).block, (ad139.add ((x7_2).toNat * 2)).off + 1, none⟩ = some (.int .i64 ((rd_T25 t132 x7_2).f1))) (ds := []) (bsq 0 14) (by kernel_rfl) rfl rfl ⟨hx139_0, hx139_1, hx140_0, hx140_1⟩ (fun hHeld => ?_); refine with_tabW signalbenchlaw06_SpanOrders.tab17 signalbenchlaw06_SpanOrders.bits17 (fun HT_ HW_ => ?_)
               generalize wc.drew = w33 at HO_3 HO_5 HB hx139_0 hx139_1 hx140_0 hx140_1 hHeld ⊢
               refine pu 0 67 (bsq 1 13) ?_
               refine pu 1 68 (bsq 2 12) ?_
               refine pu 2 69 (bsq 3 11) ?_
               refine pu 3 70 (bsq 4 10) ?_
               refine pu 4 71 (bsq 5 9) ?_
               refine pu 7 74 (bls [5, 2, 1, 6]) ?_
               refine pu 8 75 (bls [5, 2, 2, 5]) ?_
               refine pu 9 76 (bls [5, 2, 3, 4]) ?_
               refine pu 10 77 (bls [5, 2, 4, 3]) ?_
               refine tk 5 72 (bls [6, 1, 4, 3]) hHeld ?_ (he := by rintro w' ⟨s0, s1, s2, s3⟩; go_simp; with_reducible rfl)
               refine pu 6 73 (bsq 11 3) ?_
               refine tk 11 78 (bsq 12 2) hHeld ?_ (he := by rintro w' ⟨s0, s1, s2, s3⟩; go_simp; with_reducible rfl)
               refine pu 12 79 (bsq 13 1) ?_
               refine pu 13 6 (bsq 14 0) ?_
               refine done_ (done_of HT_.out (by kernel_rfl)) ?_
               try go_wp2
               go_ret
               exact ⟨by first | rfl | (simp [errW_none, errW_some] <;> rfl) | (simp [*, errW_none, errW_some] <;> rfl), bs HB.out⟩
              ·
               rw [if_neg c32] at H
               have c32b0 : decide (1099511627776 < (wrap64 ((wrap64 (x6_2 + ((rd_T25 t132 x7_2).f1))) - ((rd_T25 t132 x7_2).f0)))) = false := decide_eq_false c32
               clear c32
               have H' := Aside0.mk H
               clear H
               try go_wp2
               have n0_ := Aside0.mk (Kd.R_drew HO_3.out)
               have n1_ := Aside0.mk (Kd.R_drew HO_5.out)
               have n2_ := Aside0.mk (below_drew1 HB.out)
               clear HO_3
               clear HO_5
               clear HB
               have HO_3 := n0_
               have HO_5 := n1_
               have HB := n2_
               clear n0_ n1_ n2_
               have p139 : 0 ≤ (x7_2 : Int) := of_decide_eq_true (by first | (with_reducible assumption) | assumption)
               have q139 : x7_2 < (t132.length : Int) := of_decide_eq_true (by first | (with_reducible assumption) | assumption)
               obtain ⟨ad139, e139, hx139_0, hx139_1⟩ := at_T25 (Kd.R_reads' HO_5.out).2.2 x7_2 p139 q139
               cases e139
               replace p139 := eq_true p139
               replace q139 := eq_true q139
               have p140 : 0 ≤ (x7_2 : Int) := of_decide_eq_true (by first | (with_reducible assumption) | assumption)
               have q140 : x7_2 < (t132.length : Int) := of_decide_eq_true (by first | (with_reducible assumption) | assumption)
               obtain ⟨ad140, e140, hx140_0, hx140_1⟩ := at_T25 (Kd.R_reads' HO_5.out).2.2 x7_2 p140 q140
               obtain rfl : ad139 = ad140 := (by injection e140)
               replace p140 := eq_true p140
               replace q140 := eq_true q140
               refine start_ (n := 14) (S := fun w' => w'.cell? (ad139.add ((x7_2).toNat * 2)) = some (.int .i64 ((rd_T25 t132 x7_2).f0)) ∧ w'.cell? ⟨(ad139.add ((x7_2).toNat * 2)).block, (ad139.add ((x7_2).toNat * 2)).off + 1, none⟩ = some (.int .i64 ((rd_T25 t132 x7_2).f1)) ∧ w'.cell? (ad139.add ((x7_2).toNat * 2)) = some (.int .i64 ((rd_T25 t132 x7_2).f0)) ∧ w'.cell? ⟨(ad139.add ((x7_2).toNat * 2)).block, (ad139.add ((x7_2).toNat * 2)).off + 1, none⟩ = some (.int .i64 ((rd_T25 t132 x7_2).f1))) (ds := []) (bsq 0 14) (by kernel_rfl) rfl rfl ⟨hx139_0, hx139_1, hx140_0, hx140_1⟩ (fun hHeld => ?_); refine with_tabW signalbenchlaw06_SpanOrders.tab17 signalbenchlaw06_SpanOrders.bits17 (fun HT_ HW_ => ?_)
               generalize wc.drew = w34 at HO_3 HO_5 HB hx139_0 hx139_1 hx140_0 hx140_1 hHeld ⊢
               refine pu 0 67 (bsq 1 13) ?_
               refine pu 1 68 (bsq 2 12) ?_
               refine pu 2 69 (bsq 3 11) ?_
               refine pu 3 70 (bsq 4 10) ?_
               refine pu 4 71 (bsq 5 9) ?_
               refine pu 7 74 (bls [5, 2, 1, 6]) ?_
               refine pu 8 75 (bls [5, 2, 2, 5]) ?_
               refine pu 9 76 (bls [5, 2, 3, 4]) ?_
               refine pu 10 77 (bls [5, 2, 4, 3]) ?_
               refine tk 5 72 (bls [6, 1, 4, 3]) hHeld ?_ (he := by rintro w' ⟨s0, s1, s2, s3⟩; go_simp; with_reducible rfl)
               refine pu 6 73 (bsq 11 3) ?_
               refine tk 11 78 (bsq 12 2) hHeld ?_ (he := by rintro w' ⟨s0, s1, s2, s3⟩; go_simp; with_reducible rfl)
               refine pu 12 79 (bsq 13 1) ?_
               refine pu 13 6 (bsq 14 0) ?_
               refine done_ (done_of HT_.out (by kernel_rfl)) ?_
               try go_wp2
               go_roundg kj20
               case measure => have := HK1.out; have := HK2.out; have := HJ20.out; omega
               case rel => exact ⟨(wrap64 ((wrap64 (x6_2 + ((rd_T25 t132 x7_2).f1))) - ((rd_T25 t132 x7_2).f0))), (wrap64 (x7_2 + 1)), (by first | rfl | (simp; done) | (simp [*]; done)), (by first | rfl | (simp; done) | (simp [*]; done)), H', ⟨by have := HK1.out; have := HK2.out; have := HJ20.out; omega⟩, ⟨by (with_reducible repeat (first | apply Kd.R_alloc | apply Kd.R_drewN | apply Kd.R_drew)); exact HO_3.out⟩, ⟨by (with_reducible repeat (first | apply Kd.R_alloc | apply Kd.R_drewN | apply Kd.R_drew)); exact HO_5.out⟩, ⟨bs HB.out⟩⟩
             ·
              rw [if_neg c31] at H
              exact absurd H (by simp)
            ·
             rw [if_neg c30] at H
             exact absurd H (by simp)
        ·
         rw [if_neg c20] at H
         have c20b0 : decide (x7_2 < (t132.length : Int)) = false := decide_eq_false c20
         clear c20
         replace H := Option.bind_eq_some_iff.mp H
         obtain ⟨t141, A350, H⟩ := H
         replace H : ((signalbenchlaw06_same.f k2 t141 t132).bind fun t144 => (if t144 = true then ((span_Join.f t132).bind fun t145 => ((signalbenchlaw06_same.f k2 t145 t132).bind fun t148 => (if t148 = true then ((span_Total.f k2 l0).bind fun t149 => (some (t149 == x6_2))) else (some false)))) else (some false))) = some r := H
         have A35 := Aside0.mk A350
         clear A350
         replace H := Option.bind_eq_some_iff.mp H
         obtain ⟨t144, A360, H⟩ := H
         replace H : (if t144 = true then ((span_Join.f t132).bind fun t145 => ((signalbenchlaw06_same.f k2 t145 t132).bind fun t148 => (if t148 = true then ((span_Total.f k2 l0).bind fun t149 => (some (t149 == x6_2))) else (some false)))) else (some false)) = some r := H
         have A36 := Aside0.mk A360
         clear A360
         by_cases c37 : t144 = true
         ·
          subst c37
          have H1 : ((span_Join.f t132).bind fun t145 => ((signalbenchlaw06_same.f k2 t145 t132).bind fun t148 => (if t148 = true then ((span_Total.f k2 l0).bind fun t149 => (some (t149 == x6_2))) else (some false)))) = some r := by rw [if_pos rfl] at H; exact H
          clear H
          have H := H1
          clear H1
          replace H := Option.bind_eq_some_iff.mp H
          obtain ⟨t145, A380, H⟩ := H
          replace H : ((signalbenchlaw06_same.f k2 t145 t132).bind fun t148 => (if t148 = true then ((span_Total.f k2 l0).bind fun t149 => (some (t149 == x6_2))) else (some false))) = some r := H
          have A38 := Aside0.mk A380
          clear A380
          replace H := Option.bind_eq_some_iff.mp H
          obtain ⟨t148, A390, H⟩ := H
          replace H : (if t148 = true then ((span_Total.f k2 l0).bind fun t149 => (some (t149 == x6_2))) else (some false)) = some r := H
          have A39 := Aside0.mk A390
          clear A390
          by_cases c40 : t148 = true
          ·
           subst c40
           have H1 : ((span_Total.f k2 l0).bind fun t149 => (some (t149 == x6_2))) = some r := by rw [if_pos rfl] at H; exact H
           clear H
           have H := H1
           clear H1
           replace H := Option.bind_eq_some_iff.mp H
           obtain ⟨t149, A410, H⟩ := H
           replace H : (some (t149 == x6_2)) = some r := H
           have A41 := Aside0.mk A410
           clear A410
           obtain rfl := Option.some.inj H
           obtain ⟨Ao42, co42, eo42⟩ := Kd.R_slice HO_5.out
           subst eo42
           obtain ⟨Ao43, co43, eo43⟩ := Kd.R_slice HO_3.out
           subst eo43
           go_wp2_with (first | ((with_reducible refine gate_callee (f := 10) rfl ?_); refine goesL_ (some 83) rfl rfl Try.func10 (by kernel_rfl) rfl #[.slice Ao43 x3_1.length co43] rfl (by (try simp only [List.map_toArray, List.map_cons, List.map_nil]); first | done | rfl | (simp only [List.length_drop, List.length_take]; rfl)) ?_; (with_reducible refine (span_Join.calls _ _ x3_1 t141 _ ?side1 ?side2 A35.out).mono ?_); (case side1 => repeat (first | exact (Kd.R_reads' HO_3.out).2.2 | (with_reducible refine Kd.C_alloc ?_ _) | (with_reducible refine Kd.C_drewN ?_ _) | (with_reducible refine Kd.C_drew ?_))); (case side2 => exact (Kd.R_reads' HO_3.out).2.1); rintro e w44 ⟨v142, rfl, ho0, hb⟩; refine ⟨_, rfl, ?_⟩; have n0_ := Aside0.mk (Kd.R_elder' (rq HO_3.out) (Kd.R_base ho0) hb); have n1_ := Aside0.mk (Kd.R_elder' (rq HO_5.out) (Kd.R_base ho0) hb); have n2_ := Aside0.mk (Kd.R_lower (Kd.R_new' (Kd.R_new' ho0 (Kd.R_lt (rq HO_3.out))) (Kd.R_lt (rq HO_5.out))) (below_size (bs HB.out))); have n3_ := Aside0.mk (below_step (bs HB.out) hb); clear HO_3; clear HO_5; clear HB; have HO_3 := n0_; have HO_5 := n1_; have HO143 := n2_; have HB := n3_; clear n0_ n1_ n2_ n3_; (try clear hb); (try clear hb2); (try clear hk); (try clear hi); (try clear ho0); obtain ⟨Ao45, co45, eo45⟩ := Kd.R_slice HO143.out; subst eo45) | ((with_reducible refine gate_callee (f := 11) rfl ?_); refine goesL_ (some 85) rfl rfl Try.func11 (by kernel_rfl) rfl #[.slice Ao45 t141.length co45, .slice Ao42 t132.length co42] rfl (by (try simp only [List.map_toArray, List.map_cons, List.map_nil]); first | done | rfl | (simp only [List.length_drop, List.length_take]; rfl)) ?_; (with_reducible refine (signalbenchlaw06_same.calls k2 _ _ t141 _ _ t132 true _ ?side1 ?side2 ?side3 ?side4 A36.out).mono ?_); (case side1 => repeat (first | exact (Kd.R_reads' HO143.out).2.2 | (with_reducible refine Kd.C_alloc ?_ _) | (with_reducible refine Kd.C_drewN ?_ _) | (with_reducible refine Kd.C_drew ?_))); (case side2 => exact (Kd.R_reads' HO143.out).2.1); (case side3 => repeat (first | exact (Kd.R_reads' HO_5.out).2.2 | (with_reducible refine Kd.C_alloc ?_ _) | (with_reducible refine Kd.C_drewN ?_ _) | (with_reducible refine Kd.C_drew ?_))); (case side4 => exact (Kd.R_reads' HO_5.out).2.1); rintro e w' ⟨rfl, ⟨nd, rfl⟩⟩; refine ⟨_, rfl, ?_⟩) | (go_at_call 10; (with_reducible refine (span_Join.calls _ _ t132 t145 _ ?side1 ?side2 A38.out).mono ?_); (case side1 => repeat (first | exact (Kd.R_reads' HO_5.out).2.2 | (with_reducible refine Kd.C_alloc ?_ _) | (with_reducible refine Kd.C_drewN ?_ _) | (with_reducible refine Kd.C_drew ?_))); (case side2 => exact (Kd.R_reads' HO_5.out).2.1); rintro e w46 ⟨v146, rfl, ho0, hb⟩; have n0_ := Aside0.mk (Kd.R_elder' (rq HO_3.out) (Kd.R_base ho0) hb); have n1_ := Aside0.mk (Kd.R_elder' (rq HO_5.out) (Kd.R_base ho0) hb); have n2_ := Aside0.mk (Kd.R_elder' (rq HO143.out) (Kd.R_base ho0) hb); have n3_ := Aside0.mk (Kd.R_lower (Kd.R_new' (Kd.R_new' (Kd.R_new' ho0 (Kd.R_lt (rq HO_3.out))) (Kd.R_lt (rq HO_5.out))) (Kd.R_lt (rq HO143.out))) (below_size (bs HB.out))); have n4_ := Aside0.mk (below_step (bs HB.out) hb); clear HO_3; clear HO_5; clear HO143; clear HB; have HO_3 := n0_; have HO_5 := n1_; have HO143 := n2_; have HO147 := n3_; have HB := n4_; clear n0_ n1_ n2_ n3_ n4_; (try clear hb); (try clear hb2); (try clear hk); (try clear hi); (try clear ho0); obtain ⟨Ao47, co47, eo47⟩ := Kd.R_slice HO147.out; subst eo47) | (go_at_call 11; (with_reducible refine (signalbenchlaw06_same.calls k2 _ _ t145 _ _ t132 true _ ?side1 ?side2 ?side3 ?side4 A39.out).mono ?_); (case side1 => repeat (first | exact (Kd.R_reads' HO147.out).2.2 | (with_reducible refine Kd.C_alloc ?_ _) | (with_reducible refine Kd.C_drewN ?_ _) | (with_reducible refine Kd.C_drew ?_))); (case side2 => exact (Kd.R_reads' HO147.out).2.1); (case side3 => repeat (first | exact (Kd.R_reads' HO_5.out).2.2 | (with_reducible refine Kd.C_alloc ?_ _) | (with_reducible refine Kd.C_drewN ?_ _) | (with_reducible refine Kd.C_drew ?_))); (case side4 => exact (Kd.R_reads' HO_5.out).2.1); rintro e w' ⟨rfl, ⟨nd, rfl⟩⟩) | (go_at_call 12; (with_reducible refine (span_Total.calls k2 _ _ l0 t149 _ ?side1 ?side2 A41.out).mono ?_); (case side1 => repeat (first | exact (Kd.C_below HR0.out (bs HB.out)) | (with_reducible refine Kd.C_alloc ?_ _) | (with_reducible refine Kd.C_drewN ?_ _) | (with_reducible refine Kd.C_drew ?_))); (case side2 => exact HC0.out); rintro e w48 ⟨rfl, hb⟩; have n0_ := Aside0.mk (Kd.R_below (rq HO_3.out) hb); have n1_ := Aside0.mk (Kd.R_below (rq HO_5.out) hb); have n2_ := Aside0.mk (Kd.R_below (rq HO143.out) hb); have n3_ := Aside0.mk (Kd.R_below (rq HO147.out) hb); have n4_ := Aside0.mk (below_step (bs HB.out) hb); clear HO_3; clear HO_5; clear HO143; clear HO147; clear HB; have HO_3 := n0_; have HO_5 := n1_; have HO143 := n2_; have HO147 := n3_; have HB := n4_; clear n0_ n1_ n2_ n3_ n4_; (try clear hb); (try clear hb2); (try clear hk); (try clear hi)))
           go_ret
           exact ⟨by first | rfl | (simp [errW_none, errW_some] <;> rfl) | (simp [*, errW_none, errW_some] <;> rfl), bs HB.out⟩
          ·
           replace c40 := Bool.eq_false_iff.mpr c40
           subst c40
           have H1 : (some false) = some r := by rw [if_neg (show ¬ (false = true) by decide)] at H; exact H
           clear H
           have H := H1
           clear H1
           obtain rfl := Option.some.inj H
           obtain ⟨Ao49, co49, eo49⟩ := Kd.R_slice HO_5.out
           subst eo49
           obtain ⟨Ao50, co50, eo50⟩ := Kd.R_slice HO_3.out
           subst eo50
           go_wp2_with (first | ((with_reducible refine gate_callee (f := 10) rfl ?_); refine goesL_ (some 83) rfl rfl Try.func10 (by kernel_rfl) rfl #[.slice Ao50 x3_1.length co50] rfl (by (try simp only [List.map_toArray, List.map_cons, List.map_nil]); first | done | rfl | (simp only [List.length_drop, List.length_take]; rfl)) ?_; (with_reducible refine (span_Join.calls _ _ x3_1 t141 _ ?side1 ?side2 A35.out).mono ?_); (case side1 => repeat (first | exact (Kd.R_reads' HO_3.out).2.2 | (with_reducible refine Kd.C_alloc ?_ _) | (with_reducible refine Kd.C_drewN ?_ _) | (with_reducible refine Kd.C_drew ?_))); (case side2 => exact (Kd.R_reads' HO_3.out).2.1); rintro e w51 ⟨v142, rfl, ho0, hb⟩; refine ⟨_, rfl, ?_⟩; have n0_ := Aside0.mk (Kd.R_elder' (rq HO_3.out) (Kd.R_base ho0) hb); have n1_ := Aside0.mk (Kd.R_elder' (rq HO_5.out) (Kd.R_base ho0) hb); have n2_ := Aside0.mk (Kd.R_lower (Kd.R_new' (Kd.R_new' ho0 (Kd.R_lt (rq HO_3.out))) (Kd.R_lt (rq HO_5.out))) (below_size (bs HB.out))); have n3_ := Aside0.mk (below_step (bs HB.out) hb); clear HO_3; clear HO_5; clear HB; have HO_3 := n0_; have HO_5 := n1_; have HO143 := n2_; have HB := n3_; clear n0_ n1_ n2_ n3_; (try clear hb); (try clear hb2); (try clear hk); (try clear hi); (try clear ho0); obtain ⟨Ao52, co52, eo52⟩ := Kd.R_slice HO143.out; subst eo52) | ((with_reducible refine gate_callee (f := 11) rfl ?_); refine goesL_ (some 85) rfl rfl Try.func11 (by kernel_rfl) rfl #[.slice Ao52 t141.length co52, .slice Ao49 t132.length co49] rfl (by (try simp only [List.map_toArray, List.map_cons, List.map_nil]); first | done | rfl | (simp only [List.length_drop, List.length_take]; rfl)) ?_; (with_reducible refine (signalbenchlaw06_same.calls k2 _ _ t141 _ _ t132 true _ ?side1 ?side2 ?side3 ?side4 A36.out).mono ?_); (case side1 => repeat (first | exact (Kd.R_reads' HO143.out).2.2 | (with_reducible refine Kd.C_alloc ?_ _) | (with_reducible refine Kd.C_drewN ?_ _) | (with_reducible refine Kd.C_drew ?_))); (case side2 => exact (Kd.R_reads' HO143.out).2.1); (case side3 => repeat (first | exact (Kd.R_reads' HO_5.out).2.2 | (with_reducible refine Kd.C_alloc ?_ _) | (with_reducible refine Kd.C_drewN ?_ _) | (with_reducible refine Kd.C_drew ?_))); (case side4 => exact (Kd.R_reads' HO_5.out).2.1); rintro e w' ⟨rfl, ⟨nd, rfl⟩⟩; refine ⟨_, rfl, ?_⟩) | (go_at_call 10; (with_reducible refine (span_Join.calls _ _ t132 t145 _ ?side1 ?side2 A38.out).mono ?_); (case side1 => repeat (first | exact (Kd.R_reads' HO_5.out).2.2 | (with_reducible refine Kd.C_alloc ?_ _) | (with_reducible refine Kd.C_drewN ?_ _) | (with_reducible refine Kd.C_drew ?_))); (case side2 => exact (Kd.R_reads' HO_5.out).2.1); rintro e w53 ⟨v146, rfl, ho0, hb⟩; have n0_ := Aside0.mk (Kd.R_elder' (rq HO_3.out) (Kd.R_base ho0) hb); have n1_ := Aside0.mk (Kd.R_elder' (rq HO_5.out) (Kd.R_base ho0) hb); have n2_ := Aside0.mk (Kd.R_elder' (rq HO143.out) (Kd.R_base ho0) hb); have n3_ := Aside0.mk (Kd.R_lower (Kd.R_new' (Kd.R_new' (Kd.R_new' ho0 (Kd.R_lt (rq HO_3.out))) (Kd.R_lt (rq HO_5.out))) (Kd.R_lt (rq HO143.out))) (below_size (bs HB.out))); have n4_ := Aside0.mk (below_step (bs HB.out) hb); clear HO_3; clear HO_5; clear HO143; clear HB; have HO_3 := n0_; have HO_5 := n1_; have HO143 := n2_; have HO147 := n3_; have HB := n4_; clear n0_ n1_ n2_ n3_ n4_; (try clear hb); (try clear hb2); (try clear hk); (try clear hi); (try clear ho0); obtain ⟨Ao54, co54, eo54⟩ := Kd.R_slice HO147.out; subst eo54) | (go_at_call 11; (with_reducible refine (signalbenchlaw06_same.calls k2 _ _ t145 _ _ t132 false _ ?side1 ?side2 ?side3 ?side4 A39.out).mono ?_); (case side1 => repeat (first | exact (Kd.R_reads' HO147.out).2.2 | (with_reducible refine Kd.C_alloc ?_ _) | (with_reducible refine Kd.C_drewN ?_ _) | (with_reducible refine Kd.C_drew ?_))); (case side2 => exact (Kd.R_reads' HO147.out).2.1); (case side3 => repeat (first | exact (Kd.R_reads' HO_5.out).2.2 | (with_reducible refine Kd.C_alloc ?_ _) | (with_reducible refine Kd.C_drewN ?_ _) | (with_reducible refine Kd.C_drew ?_))); (case side4 => exact (Kd.R_reads' HO_5.out).2.1); rintro e w' ⟨rfl, ⟨nd, rfl⟩⟩))
           go_ret
           exact ⟨by first | rfl | (simp [errW_none, errW_some] <;> rfl) | (simp [*, errW_none, errW_some] <;> rfl), bs HB.out⟩
         ·
          replace c37 := Bool.eq_false_iff.mpr c37
          subst c37
          have H1 : (some false) = some r := by rw [if_neg (show ¬ (false = true) by decide)] at H; exact H
          clear H
          have H := H1
          clear H1
          obtain rfl := Option.some.inj H
          obtain ⟨Ao55, co55, eo55⟩ := Kd.R_slice HO_5.out
          subst eo55
          obtain ⟨Ao56, co56, eo56⟩ := Kd.R_slice HO_3.out
          subst eo56
          go_wp2_with (first | ((with_reducible refine gate_callee (f := 10) rfl ?_); refine goesL_ (some 83) rfl rfl Try.func10 (by kernel_rfl) rfl #[.slice Ao56 x3_1.length co56] rfl (by (try simp only [List.map_toArray, List.map_cons, List.map_nil]); first | done | rfl | (simp only [List.length_drop, List.length_take]; rfl)) ?_; (with_reducible refine (span_Join.calls _ _ x3_1 t141 _ ?side1 ?side2 A35.out).mono ?_); (case side1 => repeat (first | exact (Kd.R_reads' HO_3.out).2.2 | (with_reducible refine Kd.C_alloc ?_ _) | (with_reducible refine Kd.C_drewN ?_ _) | (with_reducible refine Kd.C_drew ?_))); (case side2 => exact (Kd.R_reads' HO_3.out).2.1); rintro e w57 ⟨v142, rfl, ho0, hb⟩; refine ⟨_, rfl, ?_⟩; have n0_ := Aside0.mk (Kd.R_elder' (rq HO_3.out) (Kd.R_base ho0) hb); have n1_ := Aside0.mk (Kd.R_elder' (rq HO_5.out) (Kd.R_base ho0) hb); have n2_ := Aside0.mk (Kd.R_lower (Kd.R_new' (Kd.R_new' ho0 (Kd.R_lt (rq HO_3.out))) (Kd.R_lt (rq HO_5.out))) (below_size (bs HB.out))); have n3_ := Aside0.mk (below_step (bs HB.out) hb); clear HO_3; clear HO_5; clear HB; have HO_3 := n0_; have HO_5 := n1_; have HO143 := n2_; have HB := n3_; clear n0_ n1_ n2_ n3_; (try clear hb); (try clear hb2); (try clear hk); (try clear hi); (try clear ho0); obtain ⟨Ao58, co58, eo58⟩ := Kd.R_slice HO143.out; subst eo58) | ((with_reducible refine gate_callee (f := 11) rfl ?_); refine goesL_ (some 85) rfl rfl Try.func11 (by kernel_rfl) rfl #[.slice Ao58 t141.length co58, .slice Ao55 t132.length co55] rfl (by (try simp only [List.map_toArray, List.map_cons, List.map_nil]); first | done | rfl | (simp only [List.length_drop, List.length_take]; rfl)) ?_; (with_reducible refine (signalbenchlaw06_same.calls k2 _ _ t141 _ _ t132 false _ ?side1 ?side2 ?side3 ?side4 A36.out).mono ?_); (case side1 => repeat (first | exact (Kd.R_reads' HO143.out).2.2 | (with_reducible refine Kd.C_alloc ?_ _) | (with_reducible refine Kd.C_drewN ?_ _) | (with_reducible refine Kd.C_drew ?_))); (case side2 => exact (Kd.R_reads' HO143.out).2.1); (case side3 => repeat (first | exact (Kd.R_reads' HO_5.out).2.2 | (with_reducible refine Kd.C_alloc ?_ _) | (with_reducible refine Kd.C_drewN ?_ _) | (with_reducible refine Kd.C_drew ?_))); (case side4 => exact (Kd.R_reads' HO_5.out).2.1); rintro e w' ⟨rfl, ⟨nd, rfl⟩⟩; refine ⟨_, rfl, ?_⟩))
          go_ret
          exact ⟨by first | rfl | (simp [errW_none, errW_some] <;> rfl) | (simp [*, errW_none, errW_some] <;> rfl), bs HB.out⟩
 ·
  replace c3 := Bool.eq_false_iff.mpr c3
  subst c3
  have H1 : (some false) = some r := by rw [if_neg (show ¬ (false = true) by decide)] at H; exact H
  clear H
  have H := H1
  clear H1
  obtain rfl := Option.some.inj H
  go_enter Try.func3, Try.ntmps3
  go_wp2_with (first | ((with_reducible refine gate_callee (f := 9) rfl ?_); refine goesL_ (some 8) rfl rfl Try.func9 (by kernel_rfl) rfl #[] rfl (by (try simp only [List.map_toArray, List.map_cons, List.map_nil]); first | done | rfl | (simp only [List.length_drop, List.length_take]; rfl)) ?_; (with_reducible refine (signalbenchlaw06_lives.calls  false _ A2.out).mono ?_); rintro e w59 ⟨rfl, hb⟩; refine ⟨_, rfl, ?_⟩; have n0_ := Aside0.mk (below_step (bs HB.out) hb); clear HB; have HB := n0_; clear n0_; (try clear hb); (try clear hb2); (try clear hk); (try clear hi)))
  go_ret
  exact ⟨by first | rfl | (simp [errW_none, errW_some] <;> rfl) | (simp [*, errW_none, errW_some] <;> rfl), bs HB.out⟩

end Go.Proofs.Ytejmegaalfblmaa.H
