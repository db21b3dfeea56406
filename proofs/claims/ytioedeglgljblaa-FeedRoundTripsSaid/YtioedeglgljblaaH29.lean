-- Printed by wip/hprint.py (this project's own driver of the kit's print) out of the translation; Lean checks it.
import Derived.Test.YtioedeglgljblaaH0
import Derived.Test.YtioedeglgljblaaH8
import Derived.Test.YtioedeglgljblaaH15
import Derived.Test.YtioedeglgljblaaH16
import Derived.Test.YtioedeglgljblaaH17
import Derived.Test.YtioedeglgljblaaH18
import Derived.Test.YtioedeglgljblaaHGood
import Derived.Test.YtioedeglgljblaaH27
import Derived.Test.YtioedeglgljblaaH28
import Derived.Test.YtioedeglgljblaaHSplit
namespace Go.Proofs.Ytioedeglgljblaa.H
open Go.RowKit Go.Proofs.YtioedeglgljblaaW.PrintWords Go.Proofs.YtioedeglgljblaaW.PrintLast Go.Proofs.YtioedeglgljblaaW.PrintMore
attribute [local go_sem] max2_int min2_int max_two min_two max_three min_three max_four min_four   -- for this text's walks alone
set_option linter.unusedVariables false
set_option linter.unusedSimpArgs false

/-! ### signalbenchlaw14_FeedRoundTrips: function 7 -/
mutual
def signalbenchlaw14_FeedRoundTrips.j0 : Nat → List Int → Bool → List ByteArray → List (S46) → Option (Bool)
 | 0, _, _, _, _ => none
 | k + 1, x1, x29, x428000, x428001 => if x29 = true then ((signalbenchlaw14_awake.f).bind fun t429 => (some t429)) else ((feed_Levels.f k x428000 x428001 x428000).bind fun bt430 => ((feed_Runs.f k bt430.1).bind fun bt434 => (if bt430.2 = 0 then (if bt434.2 = 0 then ((signalbenchref08_Same.f k bt434.1 x428001).bind fun t438 => (signalbenchlaw14_FeedRoundTrips.j1 k x1 bt430.1 (!t438) x428000 x428001)) else (signalbenchlaw14_FeedRoundTrips.j1 k x1 bt430.1 true x428000 x428001)) else (signalbenchlaw14_FeedRoundTrips.j1 k x1 bt430.1 true x428000 x428001))))
def signalbenchlaw14_FeedRoundTrips.j1 : Nat → List Int → List (S48) → Bool → List ByteArray → List (S46) → Option (Bool)
 | 0, _, _, _, _, _ => none
 | k + 1, x1, x5, x55, x428000, x428001 => if x55 = true then (some false) else ((feed_Split.f x5 x1).bind fun t439 => (if (t439.length : Int) < (x5.length : Int) then (signalbenchlaw14_FeedRoundTrips.j2 k t439 true x428000 x428001) else ((feed_Merge.f k t439).bind fun t442 => ((feed_Merge.f k x5).bind fun t445 => ((signalbenchref07_Same.f k t442 t445).bind fun t448 => (signalbenchlaw14_FeedRoundTrips.j2 k t439 (!t448) x428000 x428001))))))
def signalbenchlaw14_FeedRoundTrips.j2 : Nat → List (S48) → Bool → List ByteArray → List (S46) → Option (Bool)
 | 0, _, _, _, _ => none
 | k + 1, x9, x71, x428000, x428001 => if x71 = true then (some false) else ((feed_Runs.f k x9).bind fun bt449 => ((feed_Merge.f k x9).bind fun t453 => ((feed_Runs.f k t453).bind fun bt456 => (if bt449.2 = 0 then (signalbenchlaw14_FeedRoundTrips.j3 k bt449.1 bt456.1 (bt456.2 != 0) x428000 x428001) else (signalbenchlaw14_FeedRoundTrips.j3 k bt449.1 bt456.1 true x428000 x428001)))))
def signalbenchlaw14_FeedRoundTrips.j3 : Nat → List (S46) → List (S46) → Bool → List ByteArray → List (S46) → Option (Bool)
 | 0, _, _, _, _, _ => none
 | k + 1, x10, x12, x88, x428000, x428001 => if x88 = true then (some false) else ((signalbenchref09_Same.f k x428000 x10 x428000 x428001).bind fun t462 => (if t462 = true then ((signalbenchref09_Same.f k x428000 x12 x428000 x428001).bind fun t463 => (if t463 = true then ((signalbenchref09_Clean.f k x428001).bind fun t464 => ((signalbenchref08_Same.f k x12 t464).bind fun t467 => (if t467 = true then ((signalbenchlaw14_awake.f).bind fun t468 => (some t468)) else (some false)))) else (some false))) else (some false)))
end
def signalbenchlaw14_FeedRoundTrips.f (k : Nat) (l0_0 : List ByteArray) (l0_1 : List (S46)) (l1 : List Int) : Option (Bool) := if (l0_1.length : Int) > 200 then (signalbenchlaw14_FeedRoundTrips.j0 k l1 true l0_0 l0_1) else (if (l1.length : Int) > 200 then (signalbenchlaw14_FeedRoundTrips.j0 k l1 true l0_0 l0_1) else ((signalbenchref09_Good.f k l0_0 l0_1).bind fun t428 => (signalbenchlaw14_FeedRoundTrips.j0 k l1 (!t428) l0_0 l0_1)))
set_option maxHeartbeats 8000000 in
set_option maxRecDepth 100000 in
theorem signalbenchlaw14_FeedRoundTrips.calls (k : Nat) (A0_0 : Option Addr) (c0_0 : Nat) (l0_0 : List ByteArray) (A0_1 : Option Addr) (c0_1 : Nat) (l0_1 : List (S46)) (A1 : Option Addr) (c1 : Nat) (l1 : List Int) (r : Bool) (w : World) (hr0_0 : Kd.C Kd.string w A0_0 l0_0.length l0_0) (hc0_0 : l0_0.length ≤ c0_0) (hr0_1 : Kd.C k46 w A0_1 l0_1.length l0_1) (hc0_1 : l0_1.length ≤ c0_1) (hr1 : Kd.C (Kd.int .i64) w A1 l1.length l1) (hc1 : l1.length ≤ c1) (h : signalbenchlaw14_FeedRoundTrips.f k l0_0 l0_1 l1 = some r) :
  Calls Try.prog 7 #[.agg #[.slice A0_0 l0_0.length c0_0, .slice A0_1 l0_1.length c0_1], .slice A1 l1.length c1] w fun e w' => e = .returned (.bool r) ∧ Below w.heap.size w w' := by
 have hu25 := Try.underlying25
 have HR0_0 := Aside0.mk hr0_0
 have HC0_0 := Aside0.mk hc0_0
 clear hr0_0 hc0_0
 have HR0_1 := Aside0.mk hr0_1
 have HC0_1 := Aside0.mk hc0_1
 clear hr0_1 hc0_1
 have HR1 := Aside0.mk hr1
 have HC1 := Aside0.mk hc1
 clear hr1 hc1
 have HB := Aside0.mk (Below.refl w.heap.size w)
 have H : (if (l0_1.length : Int) > 200 then (signalbenchlaw14_FeedRoundTrips.j0 k l1 true l0_0 l0_1) else (if (l1.length : Int) > 200 then (signalbenchlaw14_FeedRoundTrips.j0 k l1 true l0_0 l0_1) else ((signalbenchref09_Good.f k l0_0 l0_1).bind fun t428 => (signalbenchlaw14_FeedRoundTrips.j0 k l1 (!t428) l0_0 l0_1)))) = some r := h
 clear h
 have HC3 := Aside0.mk H
 clear H
 go_enter Try.func7, Try.ntmps7
 go_upto_region 1 with (first | ((with_reducible refine gate_dst (N := 2) rfl ?_); (try (refine gate_guard (by rfl) ?_; dsimp only)); refine box_event ?hg (N := 2) ?hd (cs := #[.slice A0_0 l0_0.length c0_0, .slice A0_1 l0_1.length c0_1]) (t := 25) ?hr ?_; (case hd => rfl); (case hg => rfl); (case hr => first | (go_simp; done) | (go_simp; rfl)); intro gb427 hg w4 hbox hb; have n0_ := Aside0.mk (below_step (bs HB.out) hb); have n1_ := Aside0.mk (hbox); have n2_ := Aside0.mk ((by rw [hg]; exact (below_size (bs HB.out)) : w.heap.size ≤ gb427)); have n3_ := n2_; clear HB; have HB := n0_; have BK427 := n1_; have GW427 := n2_; have GE427 := n3_; clear n0_ n1_ n2_ n3_; clear hb hbox hg))
 (try simp only [Act.put, List.setIfInBounds_toArray, List.set_cons_zero, List.set_cons_succ])
 go_cut [29] (fun v29 wc => ∃ (kq : Nat) (x29_2 : Bool), v29 = .bool x29_2 ∧ Aside0 (signalbenchlaw14_FeedRoundTrips.j0 kq l1 x29_2 l0_0 l0_1 = some r) ∧ Aside0 (kq ≤ k) ∧ Aside0 (wc.heap[gb427]? = some (.cells #[(.slice A0_0 l0_0.length c0_0), (.slice A0_1 l0_1.length c0_1)] 25 (0, 0))) ∧ Aside0 (Below w.heap.size w wc))
 case first =>
  have H := HC3.out
  clear HC3
  by_cases c5 : (l0_1.length : Int) > 200
  ·
   rw [if_pos c5] at H
   have c5b0 : decide (200 < (l0_1.length : Int)) = true := decide_eq_true c5
   have c5b1 : decide (200 < l0_1.length) = true := decide_eq_true (by omega)
   clear c5
   (first | rw [c5b0] | (simp only [i64_w, i32_w]; rw [c5b0]) | skip)
   have H' := Aside0.mk H
   clear H
   obtain ⟨hcz6_0, hcz6_1⟩ := bc2 BK427.out
   obtain ⟨hfz6_0, hfz6_1⟩ := bf2 BK427.out
   go_wp2
   go_meet
   case rel => exact ⟨_, (true), (by first | rfl | (simp; done) | (simp [*]; done)), H', ⟨by first | omega | exact Nat.le_refl _⟩, ⟨bg BK427.out⟩, ⟨bs HB.out⟩⟩
  ·
   rw [if_neg c5] at H
   have c5b0 : decide (200 < (l0_1.length : Int)) = false := decide_eq_false c5
   have c5b1 : decide (200 < l0_1.length) = false := decide_eq_false (by omega)
   clear c5
   (first | rw [c5b0] | (simp only [i64_w, i32_w]; rw [c5b0]) | skip)
   by_cases c7 : (l1.length : Int) > 200
   ·
    rw [if_pos c7] at H
    have c7b0 : decide (200 < (l1.length : Int)) = true := decide_eq_true c7
    have c7b1 : decide (200 < l1.length) = true := decide_eq_true (by omega)
    clear c7
    have H' := Aside0.mk H
    clear H
    obtain ⟨hcz8_0, hcz8_1⟩ := bc2 BK427.out
    obtain ⟨hfz8_0, hfz8_1⟩ := bf2 BK427.out
    go_wp2
    go_meet
    case rel => exact ⟨_, (true), (by first | rfl | (simp; done) | (simp [*]; done)), H', ⟨by first | omega | exact Nat.le_refl _⟩, ⟨bg BK427.out⟩, ⟨bs HB.out⟩⟩
   ·
    rw [if_neg c7] at H
    have c7b0 : decide (200 < (l1.length : Int)) = false := decide_eq_false c7
    have c7b1 : decide (200 < l1.length) = false := decide_eq_false (by omega)
    clear c7
    replace H := Option.bind_eq_some_iff.mp H
    obtain ⟨t428, A90, H⟩ := H
    replace H : (signalbenchlaw14_FeedRoundTrips.j0 k l1 (!t428) l0_0 l0_1) = some r := H
    have A9 := Aside0.mk A90
    clear A90
    have H' := Aside0.mk H
    clear H
    obtain ⟨hcz10_0, hcz10_1⟩ := bc2 BK427.out
    obtain ⟨hfz10_0, hfz10_1⟩ := bf2 BK427.out
    go_wp2_with (first | (go_at_call 20; (with_reducible refine (signalbenchref09_Good.calls k _ _ l0_0 _ _ l0_1 t428 _ ?side1 ?side2 ?side3 ?side4 A9.out).mono ?_); (case side1 => repeat (first | exact (Kd.C_below HR0_0.out HB.out) | (with_reducible refine Kd.C_alloc ?_ _) | (with_reducible refine Kd.C_drewN ?_ _) | (with_reducible refine Kd.C_drew ?_))); (case side2 => exact HC0_0.out); (case side3 => repeat (first | exact (Kd.C_below HR0_1.out HB.out) | (with_reducible refine Kd.C_alloc ?_ _) | (with_reducible refine Kd.C_drewN ?_ _) | (with_reducible refine Kd.C_drew ?_))); (case side4 => exact HC0_1.out); rintro e w11 ⟨rfl, hb⟩; have n0_ := Aside0.mk (blk_below (bg BK427.out) hb); have n1_ := Aside0.mk (below_step (bs HB.out) hb); clear BK427; clear HB; have BK427 := n0_; have HB := n1_; clear n0_ n1_; (try clear hb); (try clear hb2); (try clear hk); (try clear hi)))
    go_meet
    case rel => exact ⟨_, (!t428), (by first | rfl | (simp; done) | (simp [*]; done)), H', ⟨by first | omega | exact Nat.le_refl _⟩, ⟨bg BK427.out⟩, ⟨bs HB.out⟩⟩
 case rest =>
  clear HC3
  try clear c1
  try clear p2
  try clear c5
  try clear c5b0
  try clear c5b1
  try clear c7
  try clear c7b0
  try clear c7b1
  try clear hcz10_0 hcz10_1
  try clear hcz6_0 hcz6_1
  try clear hcz8_0 hcz8_1
  try clear hfz10_0 hfz10_1
  try clear hfz6_0 hfz6_1
  try clear hfz8_0 hfz8_1
  obtain ⟨kq, x29_2, rfl, HA, HJ2, BK427, HB⟩ := hcut
  cases kq with
  | zero => exact absurd HA.out (by simp [signalbenchlaw14_FeedRoundTrips.j0])
  | succ kj2 =>
   have H := HA.out
   clear HA
   simp only [signalbenchlaw14_FeedRoundTrips.j0] at H
   by_cases c12 : x29_2 = true
   ·
    subst c12
    have H1 : ((signalbenchlaw14_awake.f).bind fun t429 => (some t429)) = some r := by rw [if_pos rfl] at H; exact H
    clear H
    have H := H1
    clear H1
    replace H := Option.bind_eq_some_iff.mp H
    obtain ⟨t429, A130, H⟩ := H
    replace H : (some t429) = some r := H
    have A13 := Aside0.mk A130
    clear A130
    obtain rfl := Option.some.inj H
    go_wp2_with (first | ((with_reducible refine gate_callee (f := 12) rfl ?_); refine goesL_ (some 30) rfl rfl Try.func12 (by kernel_rfl) rfl #[] rfl (by (try simp only [List.map_toArray, List.map_cons, List.map_nil]); first | done | rfl | (simp only [List.length_drop, List.length_take]; rfl)) ?_; (with_reducible refine (signalbenchlaw14_awake.calls  t429 _ A13.out).mono ?_); rintro e w14 ⟨rfl, hb⟩; refine ⟨_, rfl, ?_⟩; have n0_ := Aside0.mk (blk_below (bg BK427.out) hb); have n1_ := Aside0.mk (below_step (bs HB.out) hb); clear BK427; clear HB; have BK427 := n0_; have HB := n1_; clear n0_ n1_; (try clear hb); (try clear hb2); (try clear hk); (try clear hi)))
    go_ret
    exact ⟨by first | rfl | (simp [errW_none, errW_some] <;> rfl) | (simp [*, errW_none, errW_some] <;> rfl), bs HB.out⟩
   ·
    replace c12 := Bool.eq_false_iff.mpr c12
    subst c12
    have H1 : ((feed_Levels.f kj2 l0_0 l0_1 l0_0).bind fun bt430 => ((feed_Runs.f kj2 bt430.1).bind fun bt434 => (if bt430.2 = 0 then (if bt434.2 = 0 then ((signalbenchref08_Same.f kj2 bt434.1 l0_1).bind fun t438 => (signalbenchlaw14_FeedRoundTrips.j1 kj2 l1 bt430.1 (!t438) l0_0 l0_1)) else (signalbenchlaw14_FeedRoundTrips.j1 kj2 l1 bt430.1 true l0_0 l0_1)) else (signalbenchlaw14_FeedRoundTrips.j1 kj2 l1 bt430.1 true l0_0 l0_1)))) = some r := by rw [if_neg (show ¬ (false = true) by decide)] at H; exact H
    clear H
    have H := H1
    clear H1
    replace H := Option.bind_eq_some_iff.mp H
    obtain ⟨⟨t430, t433⟩, A150, H⟩ := H
    replace H : ((feed_Runs.f kj2 t430).bind fun bt434 => (if t433 = 0 then (if bt434.2 = 0 then ((signalbenchref08_Same.f kj2 bt434.1 l0_1).bind fun t438 => (signalbenchlaw14_FeedRoundTrips.j1 kj2 l1 t430 (!t438) l0_0 l0_1)) else (signalbenchlaw14_FeedRoundTrips.j1 kj2 l1 t430 true l0_0 l0_1)) else (signalbenchlaw14_FeedRoundTrips.j1 kj2 l1 t430 true l0_0 l0_1))) = some r := H
    have A15 := Aside0.mk A150
    clear A150
    replace H := Option.bind_eq_some_iff.mp H
    obtain ⟨⟨t434, t435⟩, A160, H⟩ := H
    replace H : (if t433 = 0 then (if t435 = 0 then ((signalbenchref08_Same.f kj2 t434 l0_1).bind fun t438 => (signalbenchlaw14_FeedRoundTrips.j1 kj2 l1 t430 (!t438) l0_0 l0_1)) else (signalbenchlaw14_FeedRoundTrips.j1 kj2 l1 t430 true l0_0 l0_1)) else (signalbenchlaw14_FeedRoundTrips.j1 kj2 l1 t430 true l0_0 l0_1)) = some r := H
    have A16 := Aside0.mk A160
    clear A160
    have HC17 := Aside0.mk H
    clear H
    obtain ⟨hcz18_0, hcz18_1⟩ := bc2 BK427.out
    obtain ⟨hfz18_0, hfz18_1⟩ := bf2 BK427.out
    go_upto_region 5 with (first | ((with_reducible refine gate_callee (f := 9) rfl ?_); refine goesL_ (some 35) rfl rfl Try.func9 (by kernel_rfl) rfl #[.agg #[.slice A0_0 l0_0.length c0_0, .slice A0_1 l0_1.length c0_1], .slice A0_0 l0_0.length c0_0] rfl (by (try simp only [List.map_toArray, List.map_cons, List.map_nil]); first | done | rfl | (simp only [List.length_drop, List.length_take]; rfl)) ?_; (with_reducible refine (feed_Levels.calls kj2 _ _ l0_0 _ _ l0_1 _ _ l0_0 t430 t433 _ ?side1 ?side2 ?side3 ?side4 ?side5 ?side6 A15.out).mono ?_); (case side1 => repeat (first | exact (Kd.C_below HR0_0.out HB.out) | (with_reducible refine Kd.C_alloc ?_ _) | (with_reducible refine Kd.C_drewN ?_ _) | (with_reducible refine Kd.C_drew ?_))); (case side2 => exact HC0_0.out); (case side3 => repeat (first | exact (Kd.C_below HR0_1.out HB.out) | (with_reducible refine Kd.C_alloc ?_ _) | (with_reducible refine Kd.C_drewN ?_ _) | (with_reducible refine Kd.C_drew ?_))); (case side4 => exact HC0_1.out); (case side5 => repeat (first | exact (Kd.C_below HR0_0.out HB.out) | (with_reducible refine Kd.C_alloc ?_ _) | (with_reducible refine Kd.C_drewN ?_ _) | (with_reducible refine Kd.C_drew ?_))); (case side6 => exact HC0_0.out); rintro e w19 ⟨v431, rfl, ho0, hb⟩; refine ⟨_, rfl, ?_⟩; have n0_ := Aside0.mk (Kd.R_lower ho0 (below_size (bs HB.out))); have n1_ := Aside0.mk (blk_below (bg BK427.out) hb); have n2_ := Aside0.mk (below_step (bs HB.out) hb); clear BK427; clear HB; have HO432 := n0_; have BK427 := n1_; have HB := n2_; clear n0_ n1_ n2_; (try clear hb); (try clear hb2); (try clear hk); (try clear hi); (try clear ho0); obtain ⟨Ao20, co20, eo20⟩ := Kd.R_slice HO432.out; subst eo20) | ((with_reducible refine gate_callee (f := 17) rfl ?_); refine goesL_ (some 40) rfl rfl Try.func17 (by kernel_rfl) rfl #[.slice Ao20 t430.length co20] rfl (by (try simp only [List.map_toArray, List.map_cons, List.map_nil]); first | done | rfl | (simp only [List.length_drop, List.length_take]; rfl)) ?_; (with_reducible refine (feed_Runs.calls kj2 _ _ t430 t434 t435 _ ?side1 ?side2 A16.out).mono ?_); (case side1 => repeat (first | exact (Kd.R_reads' HO432.out).2.2 | (with_reducible refine Kd.C_alloc ?_ _) | (with_reducible refine Kd.C_drewN ?_ _) | (with_reducible refine Kd.C_drew ?_))); (case side2 => exact (Kd.R_reads' HO432.out).2.1); rintro e w21 ⟨v436, rfl, ho0, hb⟩; refine ⟨_, rfl, ?_⟩; have n0_ := Aside0.mk (Kd.R_below (rq HO432.out) hb); have n1_ := Aside0.mk (Kd.R_lower ho0 (below_size (bs HB.out))); have n2_ := Aside0.mk (blk_below (bg BK427.out) hb); have n3_ := Aside0.mk (below_step (bs HB.out) hb); clear HO432; clear BK427; clear HB; have HO432 := n0_; have HO437 := n1_; have BK427 := n2_; have HB := n3_; clear n0_ n1_ n2_ n3_; (try clear hb); (try clear hb2); (try clear hk); (try clear hi); (try clear ho0)))
    (try simp only [Act.put, List.setIfInBounds_toArray, List.set_cons_zero, List.set_cons_succ])
    go_cut [55] (fun v55 wc => ∃ (kq : Nat) (x55_16 : Bool), v55 = .bool x55_16 ∧ Aside0 (signalbenchlaw14_FeedRoundTrips.j1 kq l1 t430 x55_16 l0_0 l0_1 = some r) ∧ Aside0 (kq ≤ kj2) ∧ Aside0 (Kd.R k48 48 wc w.heap.size (fun _ => True) (.slice Ao20 t430.length co20) t430) ∧ Aside0 (wc.heap[gb427]? = some (.cells #[(.slice A0_0 l0_0.length c0_0), (.slice A0_1 l0_1.length c0_1)] 25 (0, 0))) ∧ Aside0 (Below w.heap.size w wc))
    case first =>
     have H := HC17.out
     clear HC17
     by_cases c22 : t433 = 0
     ·
      rw [if_pos c22] at H
      have c22b0 : (t433 == 0) = true := beq_iff_eq.mpr c22
      have c22b1 : (t433 != 0) = false := bne_eq_false_iff_eq.mpr c22
      clear c22
      (first | rw [c22b0] | (simp only [i64_w, i32_w]; rw [c22b0]) | skip)
      by_cases c23 : t435 = 0
      ·
       rw [if_pos c23] at H
       have c23b0 : (t435 == 0) = true := beq_iff_eq.mpr c23
       have c23b1 : (t435 != 0) = false := bne_eq_false_iff_eq.mpr c23
       clear c23
       replace H := Option.bind_eq_some_iff.mp H
       obtain ⟨t438, A240, H⟩ := H
       replace H : (signalbenchlaw14_FeedRoundTrips.j1 kj2 l1 t430 (!t438) l0_0 l0_1) = some r := H
       have A24 := Aside0.mk A240
       clear A240
       have H' := Aside0.mk H
       clear H
       obtain ⟨hcz25_0, hcz25_1⟩ := bc2 BK427.out
       obtain ⟨hfz25_0, hfz25_1⟩ := bf2 BK427.out
       obtain ⟨Ao26, co26, eo26⟩ := Kd.R_slice HO437.out
       subst eo26
       go_wp2_with (first | (go_at_call 19; (with_reducible refine (signalbenchref08_Same.calls kj2 _ _ t434 _ _ l0_1 t438 _ ?side1 ?side2 ?side3 ?side4 A24.out).mono ?_); (case side1 => repeat (first | exact (Kd.R_reads' HO437.out).2.2 | (with_reducible refine Kd.C_alloc ?_ _) | (with_reducible refine Kd.C_drewN ?_ _) | (with_reducible refine Kd.C_drew ?_))); (case side2 => exact (Kd.R_reads' HO437.out).2.1); (case side3 => repeat (first | exact (Kd.C_below HR0_1.out HB.out) | (with_reducible refine Kd.C_alloc ?_ _) | (with_reducible refine Kd.C_drewN ?_ _) | (with_reducible refine Kd.C_drew ?_))); (case side4 => exact HC0_1.out); rintro e w' ⟨rfl, ⟨nd, rfl⟩⟩))
       go_meet
       case rel => exact ⟨_, (!t438), (by first | rfl | (simp; done) | (simp [*]; done)), H', ⟨by have := HJ2.out; first | omega | exact Nat.le_refl _⟩, ⟨by (with_reducible repeat (first | apply Kd.R_alloc | apply Kd.R_drewN | apply Kd.R_drew)); exact HO432.out⟩, ⟨bg BK427.out⟩, ⟨bs HB.out⟩⟩
      ·
       rw [if_neg c23] at H
       have c23b0 : (t435 == 0) = false := beq_eq_false_iff_ne.mpr c23
       have c23b1 : (t435 != 0) = true := bne_iff_ne.mpr c23
       have H' := Aside0.mk H
       clear H
       go_wp2
       go_meet
       case rel => exact ⟨_, (true), (by first | rfl | (simp; done) | (simp [*]; done)), H', ⟨by have := HJ2.out; first | omega | exact Nat.le_refl _⟩, ⟨by (with_reducible repeat (first | apply Kd.R_alloc | apply Kd.R_drewN | apply Kd.R_drew)); exact HO432.out⟩, ⟨bg BK427.out⟩, ⟨bs HB.out⟩⟩
     ·
      rw [if_neg c22] at H
      have c22b0 : (t433 == 0) = false := beq_eq_false_iff_ne.mpr c22
      have c22b1 : (t433 != 0) = true := bne_iff_ne.mpr c22
      (first | rw [c22b0] | (simp only [i64_w, i32_w]; rw [c22b0]) | skip)
      have H' := Aside0.mk H
      clear H
      go_wp2
      go_meet
      case rel => exact ⟨_, (true), (by first | rfl | (simp; done) | (simp [*]; done)), H', ⟨by have := HJ2.out; first | omega | exact Nat.le_refl _⟩, ⟨by (with_reducible repeat (first | apply Kd.R_alloc | apply Kd.R_drewN | apply Kd.R_drew)); exact HO432.out⟩, ⟨bg BK427.out⟩, ⟨bs HB.out⟩⟩
    case rest =>
     clear HC17
     try clear c1
     try clear c2
     try clear p2
     try clear c5
     try clear c5b0
     try clear c5b1
     try clear c7
     try clear c7b0
     try clear c7b1
     try clear c9
     try clear c12
     try clear c17
     try clear c22
     try clear c22b0
     try clear c22b1
     try clear c23
     try clear c23b0
     try clear c23b1
     try clear hcz10_0 hcz10_1
     try clear hcz18_0 hcz18_1
     try clear hcz25_0 hcz25_1
     try clear hcz6_0 hcz6_1
     try clear hcz8_0 hcz8_1
     try clear hfz10_0 hfz10_1
     try clear hfz18_0 hfz18_1
     try clear hfz25_0 hfz25_1
     try clear hfz6_0 hfz6_1
     try clear hfz8_0 hfz8_1
     try clear p2
     obtain ⟨kq, x55_16, rfl, HA, HJ16, HO_5, BK427, HB⟩ := hcut
     cases kq with
     | zero => exact absurd HA.out (by simp [signalbenchlaw14_FeedRoundTrips.j1])
     | succ kj16 =>
      have H := HA.out
      clear HA
      simp only [signalbenchlaw14_FeedRoundTrips.j1] at H
      by_cases c27 : x55_16 = true
      ·
       subst c27
       have H1 : (some false) = some r := by rw [if_pos rfl] at H; exact H
       clear H
       have H := H1
       clear H1
       obtain rfl := Option.some.inj H
       go_wp2
       go_ret
       exact ⟨by first | rfl | (simp [errW_none, errW_some] <;> rfl) | (simp [*, errW_none, errW_some] <;> rfl), bs HB.out⟩
      ·
       replace c27 := Bool.eq_false_iff.mpr c27
       subst c27
       have H1 : ((feed_Split.f t430 l1).bind fun t439 => (if (t439.length : Int) < (t430.length : Int) then (signalbenchlaw14_FeedRoundTrips.j2 kj16 t439 true l0_0 l0_1) else ((feed_Merge.f kj16 t439).bind fun t442 => ((feed_Merge.f kj16 t430).bind fun t445 => ((signalbenchref07_Same.f kj16 t442 t445).bind fun t448 => (signalbenchlaw14_FeedRoundTrips.j2 kj16 t439 (!t448) l0_0 l0_1)))))) = some r := by rw [if_neg (show ¬ (false = true) by decide)] at H; exact H
       clear H
       have H := H1
       clear H1
       replace H := Option.bind_eq_some_iff.mp H
       obtain ⟨t439, A280, H⟩ := H
       replace H : (if (t439.length : Int) < (t430.length : Int) then (signalbenchlaw14_FeedRoundTrips.j2 kj16 t439 true l0_0 l0_1) else ((feed_Merge.f kj16 t439).bind fun t442 => ((feed_Merge.f kj16 t430).bind fun t445 => ((signalbenchref07_Same.f kj16 t442 t445).bind fun t448 => (signalbenchlaw14_FeedRoundTrips.j2 kj16 t439 (!t448) l0_0 l0_1))))) = some r := H
       have A28 := Aside0.mk A280
       clear A280
       have HC29 := Aside0.mk H
       clear H
       go_upto_region 8 with (first | ((with_reducible refine gate_callee (f := 15) rfl ?_); refine goesL_ (some 58) rfl rfl Try.func15 (by kernel_rfl) rfl #[.slice Ao20 t430.length co20, .slice A1 l1.length c1] rfl (by (try simp only [List.map_toArray, List.map_cons, List.map_nil]); first | done | rfl | (simp only [List.length_drop, List.length_take]; rfl)) ?_; (with_reducible refine (feed_Split.calls _ _ t430 _ _ l1 t439 _ ?side1 ?side2 ?side3 ?side4 A28.out).mono ?_); (case side1 => repeat (first | exact (Kd.R_reads' HO_5.out).2.2 | (with_reducible refine Kd.C_alloc ?_ _) | (with_reducible refine Kd.C_drewN ?_ _) | (with_reducible refine Kd.C_drew ?_))); (case side2 => exact (Kd.R_reads' HO_5.out).2.1); (case side3 => repeat (first | exact (Kd.C_below HR1.out HB.out) | (with_reducible refine Kd.C_alloc ?_ _) | (with_reducible refine Kd.C_drewN ?_ _) | (with_reducible refine Kd.C_drew ?_))); (case side4 => exact HC1.out); rintro e w30 ⟨v440, rfl, ho0, hb⟩; refine ⟨_, rfl, ?_⟩; have n0_ := Aside0.mk (Kd.R_elder' (rq HO_5.out) (Kd.R_base ho0) hb); have n1_ := Aside0.mk (Kd.R_lower (Kd.R_new' ho0 (Kd.R_lt (rq HO_5.out))) (below_size (bs HB.out))); have n2_ := Aside0.mk (blk_below (bg BK427.out) hb); have n3_ := Aside0.mk (below_step (bs HB.out) hb); clear HO_5; clear BK427; clear HB; have HO_5 := n0_; have HO441 := n1_; have BK427 := n2_; have HB := n3_; clear n0_ n1_ n2_ n3_; (try clear hb); (try clear hb2); (try clear hk); (try clear hi); (try clear ho0)))
       (try simp only [Act.put, List.setIfInBounds_toArray, List.set_cons_zero, List.set_cons_succ])
       go_cut [71] (fun v71 wc => ∃ (kq : Nat) (x71_28 : Bool), v71 = .bool x71_28 ∧ Aside0 (signalbenchlaw14_FeedRoundTrips.j2 kq t439 x71_28 l0_0 l0_1 = some r) ∧ Aside0 (kq ≤ kj16) ∧ Aside0 (Kd.R k48 48 wc w.heap.size (fun _ => True) v440 t439) ∧ Aside0 (wc.heap[gb427]? = some (.cells #[(.slice A0_0 l0_0.length c0_0), (.slice A0_1 l0_1.length c0_1)] 25 (0, 0))) ∧ Aside0 (Below w.heap.size w wc))
       case first =>
        have H := HC29.out
        clear HC29
        by_cases c31 : (t439.length : Int) < (t430.length : Int)
        ·
         rw [if_pos c31] at H
         have c31b0 : decide ((t439.length : Int) < (t430.length : Int)) = true := decide_eq_true c31
         have c31b1 : decide (t439.length < t430.length) = true := decide_eq_true (Int.ofNat_lt.mp c31)
         clear c31
         (first | rw [c31b0] | (simp only [i64_w, i32_w]; rw [c31b0]) | skip)
         have H' := Aside0.mk H
         clear H
         obtain ⟨Ao32, co32, eo32⟩ := Kd.R_slice HO441.out
         subst eo32
         go_wp2
         go_meet
         case rel => exact ⟨_, (true), (by first | rfl | (simp; done) | (simp [*]; done)), H', ⟨by have := HJ2.out; have := HJ16.out; first | omega | exact Nat.le_refl _⟩, ⟨by (with_reducible repeat (first | apply Kd.R_alloc | apply Kd.R_drewN | apply Kd.R_drew)); exact Kd.R_mono HO441.out (fun _ hk => trivial)⟩, ⟨bg BK427.out⟩, ⟨bs HB.out⟩⟩
        ·
         rw [if_neg c31] at H
         have c31b0 : decide ((t439.length : Int) < (t430.length : Int)) = false := decide_eq_false c31
         have c31b1 : decide (t439.length < t430.length) = false := decide_eq_false (fun h => c31 (Int.ofNat_lt.mpr h))
         clear c31
         (first | rw [c31b0] | (simp only [i64_w, i32_w]; rw [c31b0]) | skip)
         replace H := Option.bind_eq_some_iff.mp H
         obtain ⟨t442, A330, H⟩ := H
         replace H : ((feed_Merge.f kj16 t430).bind fun t445 => ((signalbenchref07_Same.f kj16 t442 t445).bind fun t448 => (signalbenchlaw14_FeedRoundTrips.j2 kj16 t439 (!t448) l0_0 l0_1))) = some r := H
         have A33 := Aside0.mk A330
         clear A330
         replace H := Option.bind_eq_some_iff.mp H
         obtain ⟨t445, A340, H⟩ := H
         replace H : ((signalbenchref07_Same.f kj16 t442 t445).bind fun t448 => (signalbenchlaw14_FeedRoundTrips.j2 kj16 t439 (!t448) l0_0 l0_1)) = some r := H
         have A34 := Aside0.mk A340
         clear A340
         replace H := Option.bind_eq_some_iff.mp H
         obtain ⟨t448, A350, H⟩ := H
         replace H : (signalbenchlaw14_FeedRoundTrips.j2 kj16 t439 (!t448) l0_0 l0_1) = some r := H
         have A35 := Aside0.mk A350
         clear A350
         have H' := Aside0.mk H
         clear H
         obtain ⟨Ao36, co36, eo36⟩ := Kd.R_slice HO441.out
         subst eo36
         go_wp2_with (first | (go_at_call 13; (with_reducible refine (feed_Merge.calls kj16 _ _ t439 t442 _ ?side1 ?side2 A33.out).mono ?_); (case side1 => repeat (first | exact (Kd.R_reads' HO441.out).2.2 | (with_reducible refine Kd.C_alloc ?_ _) | (with_reducible refine Kd.C_drewN ?_ _) | (with_reducible refine Kd.C_drew ?_))); (case side2 => exact (Kd.R_reads' HO441.out).2.1); rintro e w37 ⟨v443, rfl, ho0, hb⟩; have n0_ := Aside0.mk (Kd.R_elder' (rq HO_5.out) (Kd.R_base ho0) hb); have n1_ := Aside0.mk (Kd.R_elder' (rq HO441.out) (Kd.R_base ho0) hb); have n2_ := Aside0.mk (Kd.R_lower (Kd.R_new' (Kd.R_new' ho0 (Kd.R_lt (rq HO_5.out))) (Kd.R_lt (rq HO441.out))) (below_size (bs HB.out))); have n3_ := Aside0.mk (blk_below (bg BK427.out) hb); have n4_ := Aside0.mk (below_step (bs HB.out) hb); clear HO_5; clear HO441; clear BK427; clear HB; have HO_5 := n0_; have HO441 := n1_; have HO444 := n2_; have BK427 := n3_; have HB := n4_; clear n0_ n1_ n2_ n3_ n4_; (try clear hb); (try clear hb2); (try clear hk); (try clear hi); (try clear ho0)) | (go_at_call 13; (with_reducible refine (feed_Merge.calls kj16 _ _ t430 t445 _ ?side1 ?side2 A34.out).mono ?_); (case side1 => repeat (first | exact (Kd.R_reads' HO_5.out).2.2 | (with_reducible refine Kd.C_alloc ?_ _) | (with_reducible refine Kd.C_drewN ?_ _) | (with_reducible refine Kd.C_drew ?_))); (case side2 => exact (Kd.R_reads' HO_5.out).2.1); rintro e w38 ⟨v446, rfl, ho0, hb⟩; have n0_ := Aside0.mk (Kd.R_elder' (rq HO_5.out) (Kd.R_base ho0) hb); have n1_ := Aside0.mk (Kd.R_elder' (rq HO441.out) (Kd.R_base ho0) hb); have n2_ := Aside0.mk (Kd.R_elder' (rq HO444.out) (Kd.R_base ho0) hb); have n3_ := Aside0.mk (Kd.R_lower (Kd.R_new' (Kd.R_new' (Kd.R_new' ho0 (Kd.R_lt (rq HO_5.out))) (Kd.R_lt (rq HO441.out))) (Kd.R_lt (rq HO444.out))) (below_size (bs HB.out))); have n4_ := Aside0.mk (blk_below (bg BK427.out) hb); have n5_ := Aside0.mk (below_step (bs HB.out) hb); clear HO_5; clear HO441; clear HO444; clear BK427; clear HB; have HO_5 := n0_; have HO441 := n1_; have HO444 := n2_; have HO447 := n3_; have BK427 := n4_; have HB := n5_; clear n0_ n1_ n2_ n3_ n4_ n5_; (try clear hb); (try clear hb2); (try clear hk); (try clear hi); (try clear ho0); obtain ⟨Ao39, co39, eo39⟩ := Kd.R_slice HO444.out; subst eo39; obtain ⟨Ao40, co40, eo40⟩ := Kd.R_slice HO447.out; subst eo40) | (go_at_call 11; (with_reducible refine (signalbenchref07_Same.calls kj16 _ _ t442 _ _ t445 t448 _ ?side1 ?side2 ?side3 ?side4 A35.out).mono ?_); (case side1 => repeat (first | exact (Kd.R_reads' HO444.out).2.2 | (with_reducible refine Kd.C_alloc ?_ _) | (with_reducible refine Kd.C_drewN ?_ _) | (with_reducible refine Kd.C_drew ?_))); (case side2 => exact (Kd.R_reads' HO444.out).2.1); (case side3 => repeat (first | exact (Kd.R_reads' HO447.out).2.2 | (with_reducible refine Kd.C_alloc ?_ _) | (with_reducible refine Kd.C_drewN ?_ _) | (with_reducible refine Kd.C_drew ?_))); (case side4 => exact (Kd.R_reads' HO447.out).2.1); rintro e w' ⟨rfl, ⟨nd, rfl⟩⟩))
         go_meet
         case rel => exact ⟨_, (!t448), (by first | rfl | (simp; done) | (simp [*]; done)), H', ⟨by have := HJ2.out; have := HJ16.out; first | omega | exact Nat.le_refl _⟩, ⟨by (with_reducible repeat (first | apply Kd.R_alloc | apply Kd.R_drewN | apply Kd.R_drew)); exact Kd.R_mono HO441.out (fun _ hk => trivial)⟩, ⟨bg BK427.out⟩, ⟨bs HB.out⟩⟩
       case rest =>
        clear HC29
        try clear c1
        try clear c2
        try clear p2
        try clear c3
        try clear c5
        try clear c5b0
        try clear c5b1
        try clear c7
        try clear c7b0
        try clear c7b1
        try clear c9
        try clear c12
        try clear c15
        try clear c17
        try clear c22
        try clear c22b0
        try clear c22b1
        try clear c23
        try clear c23b0
        try clear c23b1
        try clear c27
        try clear c31
        try clear c31b0
        try clear c31b1
        try clear hcz10_0 hcz10_1
        try clear hcz18_0 hcz18_1
        try clear hcz25_0 hcz25_1
        try clear hcz6_0 hcz6_1
        try clear hcz8_0 hcz8_1
        try clear hfz10_0 hfz10_1
        try clear hfz18_0 hfz18_1
        try clear hfz25_0 hfz25_1
        try clear hfz6_0 hfz6_1
        try clear hfz8_0 hfz8_1
        try clear p2
        obtain ⟨kq, x71_28, rfl, HA, HJ28, HO_9, BK427, HB⟩ := hcut
        cases kq with
        | zero => exact absurd HA.out (by simp [signalbenchlaw14_FeedRoundTrips.j2])
        | succ kj28 =>
         have H := HA.out
         clear HA
         simp only [signalbenchlaw14_FeedRoundTrips.j2] at H
         by_cases c41 : x71_28 = true
         ·
          subst c41
          have H1 : (some false) = some r := by rw [if_pos rfl] at H; exact H
          clear H
          have H := H1
          clear H1
          obtain rfl := Option.some.inj H
          go_wp2
          go_ret
          exact ⟨by first | rfl | (simp [errW_none, errW_some] <;> rfl) | (simp [*, errW_none, errW_some] <;> rfl), bs HB.out⟩
         ·
          replace c41 := Bool.eq_false_iff.mpr c41
          subst c41
          have H1 : ((feed_Runs.f kj28 t439).bind fun bt449 => ((feed_Merge.f kj28 t439).bind fun t453 => ((feed_Runs.f kj28 t453).bind fun bt456 => (if bt449.2 = 0 then (signalbenchlaw14_FeedRoundTrips.j3 kj28 bt449.1 bt456.1 (bt456.2 != 0) l0_0 l0_1) else (signalbenchlaw14_FeedRoundTrips.j3 kj28 bt449.1 bt456.1 true l0_0 l0_1))))) = some r := by rw [if_neg (show ¬ (false = true) by decide)] at H; exact H
          clear H
          have H := H1
          clear H1
          replace H := Option.bind_eq_some_iff.mp H
          obtain ⟨⟨t449, t450⟩, A420, H⟩ := H
          replace H : ((feed_Merge.f kj28 t439).bind fun t453 => ((feed_Runs.f kj28 t453).bind fun bt456 => (if t450 = 0 then (signalbenchlaw14_FeedRoundTrips.j3 kj28 t449 bt456.1 (bt456.2 != 0) l0_0 l0_1) else (signalbenchlaw14_FeedRoundTrips.j3 kj28 t449 bt456.1 true l0_0 l0_1)))) = some r := H
          have A42 := Aside0.mk A420
          clear A420
          replace H := Option.bind_eq_some_iff.mp H
          obtain ⟨t453, A430, H⟩ := H
          replace H : ((feed_Runs.f kj28 t453).bind fun bt456 => (if t450 = 0 then (signalbenchlaw14_FeedRoundTrips.j3 kj28 t449 bt456.1 (bt456.2 != 0) l0_0 l0_1) else (signalbenchlaw14_FeedRoundTrips.j3 kj28 t449 bt456.1 true l0_0 l0_1))) = some r := H
          have A43 := Aside0.mk A430
          clear A430
          replace H := Option.bind_eq_some_iff.mp H
          obtain ⟨⟨t456, t457⟩, A440, H⟩ := H
          replace H : (if t450 = 0 then (signalbenchlaw14_FeedRoundTrips.j3 kj28 t449 t456 (t457 != 0) l0_0 l0_1) else (signalbenchlaw14_FeedRoundTrips.j3 kj28 t449 t456 true l0_0 l0_1)) = some r := H
          have A44 := Aside0.mk A440
          clear A440
          have HC45 := Aside0.mk H
          clear H
          obtain ⟨Ao46, co46, eo46⟩ := Kd.R_slice HO_9.out
          subst eo46
          go_upto_region 12 with (first | ((with_reducible refine gate_callee (f := 17) rfl ?_); refine goesL_ (some 74) rfl rfl Try.func17 (by kernel_rfl) rfl #[.slice Ao46 t439.length co46] rfl (by (try simp only [List.map_toArray, List.map_cons, List.map_nil]); first | done | rfl | (simp only [List.length_drop, List.length_take]; rfl)) ?_; (with_reducible refine (feed_Runs.calls kj28 _ _ t439 t449 t450 _ ?side1 ?side2 A42.out).mono ?_); (case side1 => repeat (first | exact (Kd.R_reads' HO_9.out).2.2 | (with_reducible refine Kd.C_alloc ?_ _) | (with_reducible refine Kd.C_drewN ?_ _) | (with_reducible refine Kd.C_drew ?_))); (case side2 => exact (Kd.R_reads' HO_9.out).2.1); rintro e w47 ⟨v451, rfl, ho0, hb⟩; refine ⟨_, rfl, ?_⟩; have n0_ := Aside0.mk (Kd.R_below (rq HO_9.out) hb); have n1_ := Aside0.mk (Kd.R_lower ho0 (below_size (bs HB.out))); have n2_ := Aside0.mk (blk_below (bg BK427.out) hb); have n3_ := Aside0.mk (below_step (bs HB.out) hb); clear HO_9; clear BK427; clear HB; have HO_9 := n0_; have HO452 := n1_; have BK427 := n2_; have HB := n3_; clear n0_ n1_ n2_ n3_; (try clear hb); (try clear hb2); (try clear hk); (try clear hi); (try clear ho0)) | ((with_reducible refine gate_callee (f := 13) rfl ?_); refine goesL_ (some 79) rfl rfl Try.func13 (by kernel_rfl) rfl #[.slice Ao46 t439.length co46] rfl (by (try simp only [List.map_toArray, List.map_cons, List.map_nil]); first | done | rfl | (simp only [List.length_drop, List.length_take]; rfl)) ?_; (with_reducible refine (feed_Merge.calls kj28 _ _ t439 t453 _ ?side1 ?side2 A43.out).mono ?_); (case side1 => repeat (first | exact (Kd.R_reads' HO_9.out).2.2 | (with_reducible refine Kd.C_alloc ?_ _) | (with_reducible refine Kd.C_drewN ?_ _) | (with_reducible refine Kd.C_drew ?_))); (case side2 => exact (Kd.R_reads' HO_9.out).2.1); rintro e w48 ⟨v454, rfl, ho0, hb⟩; refine ⟨_, rfl, ?_⟩; have n0_ := Aside0.mk (Kd.R_elder' (rq HO_9.out) (Kd.R_base ho0) hb); have n1_ := Aside0.mk (Kd.R_below (rq HO452.out) hb); have n2_ := Aside0.mk (Kd.R_lower (Kd.R_new' ho0 (Kd.R_lt (rq HO_9.out))) (below_size (bs HB.out))); have n3_ := Aside0.mk (blk_below (bg BK427.out) hb); have n4_ := Aside0.mk (below_step (bs HB.out) hb); clear HO_9; clear HO452; clear BK427; clear HB; have HO_9 := n0_; have HO452 := n1_; have HO455 := n2_; have BK427 := n3_; have HB := n4_; clear n0_ n1_ n2_ n3_ n4_; (try clear hb); (try clear hb2); (try clear hk); (try clear hi); (try clear ho0); obtain ⟨Ao49, co49, eo49⟩ := Kd.R_slice HO455.out; subst eo49) | ((with_reducible refine gate_callee (f := 17) rfl ?_); refine goesL_ (some 80) rfl rfl Try.func17 (by kernel_rfl) rfl #[.slice Ao49 t453.length co49] rfl (by (try simp only [List.map_toArray, List.map_cons, List.map_nil]); first | done | rfl | (simp only [List.length_drop, List.length_take]; rfl)) ?_; (with_reducible refine (feed_Runs.calls kj28 _ _ t453 t456 t457 _ ?side1 ?side2 A44.out).mono ?_); (case side1 => repeat (first | exact (Kd.R_reads' HO455.out).2.2 | (with_reducible refine Kd.C_alloc ?_ _) | (with_reducible refine Kd.C_drewN ?_ _) | (with_reducible refine Kd.C_drew ?_))); (case side2 => exact (Kd.R_reads' HO455.out).2.1); rintro e w50 ⟨v458, rfl, ho0, hb⟩; refine ⟨_, rfl, ?_⟩; have n0_ := Aside0.mk (Kd.R_below (rq HO_9.out) hb); have n1_ := Aside0.mk (Kd.R_elder' (rq HO452.out) (Kd.R_base ho0) hb); have n2_ := Aside0.mk (Kd.R_below (rq HO455.out) hb); have n3_ := Aside0.mk (Kd.R_lower (Kd.R_new' ho0 (Kd.R_lt (rq HO452.out))) (below_size (bs HB.out))); have n4_ := Aside0.mk (blk_below (bg BK427.out) hb); have n5_ := Aside0.mk (below_step (bs HB.out) hb); clear HO_9; clear HO452; clear HO455; clear BK427; clear HB; have HO_9 := n0_; have HO452 := n1_; have HO455 := n2_; have HO459 := n3_; have BK427 := n4_; have HB := n5_; clear n0_ n1_ n2_ n3_ n4_ n5_; (try clear hb); (try clear hb2); (try clear hk); (try clear hi); (try clear ho0)))
          (try simp only [Act.put, List.setIfInBounds_toArray, List.set_cons_zero, List.set_cons_succ])
          go_cut [88] (fun v88 wc => ∃ (kq : Nat) (x88_44 : Bool), v88 = .bool x88_44 ∧ Aside0 (signalbenchlaw14_FeedRoundTrips.j3 kq t449 t456 x88_44 l0_0 l0_1 = some r) ∧ Aside0 (kq ≤ kj28) ∧ Aside0 (Kd.R k46 46 wc w.heap.size (fun k_ => some k_ ≠ (v458 : Value).ownBlock) v451 t449) ∧ Aside0 (Kd.R k46 46 wc w.heap.size (fun k_ => some k_ ≠ (v451 : Value).ownBlock) v458 t456) ∧ Aside0 (wc.heap[gb427]? = some (.cells #[(.slice A0_0 l0_0.length c0_0), (.slice A0_1 l0_1.length c0_1)] 25 (0, 0))) ∧ Aside0 (Below w.heap.size w wc))
          case first =>
           have H := HC45.out
           clear HC45
           by_cases c51 : t450 = 0
           ·
            rw [if_pos c51] at H
            have c51b0 : (t450 == 0) = true := beq_iff_eq.mpr c51
            have c51b1 : (t450 != 0) = false := bne_eq_false_iff_eq.mpr c51
            clear c51
            (first | rw [c51b0] | (simp only [i64_w, i32_w]; rw [c51b0]) | skip)
            have H' := Aside0.mk H
            clear H
            go_wp2
            go_meet
            case rel => exact ⟨_, ((t457 != 0)), (by first | rfl | (simp; done) | (simp [*]; done)), H', ⟨by have := HJ2.out; have := HJ16.out; have := HJ28.out; first | omega | exact Nat.le_refl _⟩, ⟨by (with_reducible repeat (first | apply Kd.R_alloc | apply Kd.R_drewN | apply Kd.R_drew)); exact Kd.R_mono HO452.out (fun _ hk => hk.2)⟩, ⟨by (with_reducible repeat (first | apply Kd.R_alloc | apply Kd.R_drewN | apply Kd.R_drew)); exact Kd.R_mono HO459.out (fun _ hk => hk.2)⟩, ⟨bg BK427.out⟩, ⟨bs HB.out⟩⟩
           ·
            rw [if_neg c51] at H
            have c51b0 : (t450 == 0) = false := beq_eq_false_iff_ne.mpr c51
            have c51b1 : (t450 != 0) = true := bne_iff_ne.mpr c51
            (first | rw [c51b0] | (simp only [i64_w, i32_w]; rw [c51b0]) | skip)
            have H' := Aside0.mk H
            clear H
            go_wp2
            go_meet
            case rel => exact ⟨_, (true), (by first | rfl | (simp; done) | (simp [*]; done)), H', ⟨by have := HJ2.out; have := HJ16.out; have := HJ28.out; first | omega | exact Nat.le_refl _⟩, ⟨by (with_reducible repeat (first | apply Kd.R_alloc | apply Kd.R_drewN | apply Kd.R_drew)); exact Kd.R_mono HO452.out (fun _ hk => hk.2)⟩, ⟨by (with_reducible repeat (first | apply Kd.R_alloc | apply Kd.R_drewN | apply Kd.R_drew)); exact Kd.R_mono HO459.out (fun _ hk => hk.2)⟩, ⟨bg BK427.out⟩, ⟨bs HB.out⟩⟩
          case rest =>
           clear HC45
           try clear c1
           try clear c2
           try clear p2
           try clear c3
           try clear c4
           try clear c5
           try clear c5b0
           try clear c5b1
           try clear c7
           try clear c7b0
           try clear c7b1
           try clear c9
           try clear c12
           try clear c13
           try clear c15
           try clear c17
           try clear c22
           try clear c22b0
           try clear c22b1
           try clear c23
           try clear c23b0
           try clear c23b1
           try clear c27
           try clear c31
           try clear c31b0
           try clear c31b1
           try clear c41
           try clear c51
           try clear c51b0
           try clear c51b1
           try clear hcz10_0 hcz10_1
           try clear hcz18_0 hcz18_1
           try clear hcz25_0 hcz25_1
           try clear hcz6_0 hcz6_1
           try clear hcz8_0 hcz8_1
           try clear hfz10_0 hfz10_1
           try clear hfz18_0 hfz18_1
           try clear hfz25_0 hfz25_1
           try clear hfz6_0 hfz6_1
           try clear hfz8_0 hfz8_1
           try clear p2
           obtain ⟨kq, x88_44, rfl, HA, HJ44, HO_10, HO_12, BK427, HB⟩ := hcut
           cases kq with
           | zero => exact absurd HA.out (by simp [signalbenchlaw14_FeedRoundTrips.j3])
           | succ kj44 =>
            have H := HA.out
            clear HA
            simp only [signalbenchlaw14_FeedRoundTrips.j3] at H
            by_cases c52 : x88_44 = true
            ·
             subst c52
             have H1 : (some false) = some r := by rw [if_pos rfl] at H; exact H
             clear H
             have H := H1
             clear H1
             obtain rfl := Option.some.inj H
             go_wp2
             go_ret
             exact ⟨by first | rfl | (simp [errW_none, errW_some] <;> rfl) | (simp [*, errW_none, errW_some] <;> rfl), bs HB.out⟩
            ·
             replace c52 := Bool.eq_false_iff.mpr c52
             subst c52
             have H1 : ((signalbenchref09_Same.f kj44 l0_0 t449 l0_0 l0_1).bind fun t462 => (if t462 = true then ((signalbenchref09_Same.f kj44 l0_0 t456 l0_0 l0_1).bind fun t463 => (if t463 = true then ((signalbenchref09_Clean.f kj44 l0_1).bind fun t464 => ((signalbenchref08_Same.f kj44 t456 t464).bind fun t467 => (if t467 = true then ((signalbenchlaw14_awake.f).bind fun t468 => (some t468)) else (some false)))) else (some false))) else (some false))) = some r := by rw [if_neg (show ¬ (false = true) by decide)] at H; exact H
             clear H
             have H := H1
             clear H1
             replace H := Option.bind_eq_some_iff.mp H
             obtain ⟨t462, A530, H⟩ := H
             replace H : (if t462 = true then ((signalbenchref09_Same.f kj44 l0_0 t456 l0_0 l0_1).bind fun t463 => (if t463 = true then ((signalbenchref09_Clean.f kj44 l0_1).bind fun t464 => ((signalbenchref08_Same.f kj44 t456 t464).bind fun t467 => (if t467 = true then ((signalbenchlaw14_awake.f).bind fun t468 => (some t468)) else (some false)))) else (some false))) else (some false)) = some r := H
             have A53 := Aside0.mk A530
             clear A530
             by_cases c54 : t462 = true
             ·
              subst c54
              have H1 : ((signalbenchref09_Same.f kj44 l0_0 t456 l0_0 l0_1).bind fun t463 => (if t463 = true then ((signalbenchref09_Clean.f kj44 l0_1).bind fun t464 => ((signalbenchref08_Same.f kj44 t456 t464).bind fun t467 => (if t467 = true then ((signalbenchlaw14_awake.f).bind fun t468 => (some t468)) else (some false)))) else (some false))) = some r := by rw [if_pos rfl] at H; exact H
              clear H
              have H := H1
              clear H1
              replace H := Option.bind_eq_some_iff.mp H
              obtain ⟨t463, A550, H⟩ := H
              replace H : (if t463 = true then ((signalbenchref09_Clean.f kj44 l0_1).bind fun t464 => ((signalbenchref08_Same.f kj44 t456 t464).bind fun t467 => (if t467 = true then ((signalbenchlaw14_awake.f).bind fun t468 => (some t468)) else (some false)))) else (some false)) = some r := H
              have A55 := Aside0.mk A550
              clear A550
              by_cases c56 : t463 = true
              ·
               subst c56
               have H1 : ((signalbenchref09_Clean.f kj44 l0_1).bind fun t464 => ((signalbenchref08_Same.f kj44 t456 t464).bind fun t467 => (if t467 = true then ((signalbenchlaw14_awake.f).bind fun t468 => (some t468)) else (some false)))) = some r := by rw [if_pos rfl] at H; exact H
               clear H
               have H := H1
               clear H1
               replace H := Option.bind_eq_some_iff.mp H
               obtain ⟨t464, A570, H⟩ := H
               replace H : ((signalbenchref08_Same.f kj44 t456 t464).bind fun t467 => (if t467 = true then ((signalbenchlaw14_awake.f).bind fun t468 => (some t468)) else (some false))) = some r := H
               have A57 := Aside0.mk A570
               clear A570
               replace H := Option.bind_eq_some_iff.mp H
               obtain ⟨t467, A580, H⟩ := H
               replace H : (if t467 = true then ((signalbenchlaw14_awake.f).bind fun t468 => (some t468)) else (some false)) = some r := H
               have A58 := Aside0.mk A580
               clear A580
               by_cases c59 : t467 = true
               ·
                subst c59
                have H1 : ((signalbenchlaw14_awake.f).bind fun t468 => (some t468)) = some r := by rw [if_pos rfl] at H; exact H
                clear H
                have H := H1
                clear H1
                replace H := Option.bind_eq_some_iff.mp H
                obtain ⟨t468, A600, H⟩ := H
                replace H : (some t468) = some r := H
                have A60 := Aside0.mk A600
                clear A600
                obtain rfl := Option.some.inj H
                obtain ⟨hcz61_0, hcz61_1⟩ := bc2 BK427.out
                obtain ⟨hfz61_0, hfz61_1⟩ := bf2 BK427.out
                obtain ⟨Ao62, co62, eo62⟩ := Kd.R_slice HO_10.out
                subst eo62
                go_wp2_with (first | ((with_reducible refine gate_dst (N := 14) rfl ?_); (try (refine gate_guard (by rfl) ?_; dsimp only)); refine box_event ?hg (N := 14) ?hd (cs := #[.slice none 0 0, .slice none 0 0]) (t := 25) ?hr ?_; (case hd => rfl); (case hg => rfl); (case hr => first | (go_simp; done) | (go_simp; rfl)); intro gb460 hg w63 hbox hb; have n0_ := Aside0.mk (Kd.R_below (rq HO_10.out) hb); have n1_ := Aside0.mk (Kd.R_below (rq HO_12.out) hb); have n2_ := Aside0.mk (blk_below (bg BK427.out) hb); have n3_ := Aside0.mk (below_step (bs HB.out) hb); have n4_ := Aside0.mk (hbox); have n5_ := Aside0.mk ((by rw [hg]; exact (below_size (bs HB.out)) : w.heap.size ≤ gb460)); have n6_ := n5_; have n7_ := Aside0.mk ((by rw [hg]; exact Nat.ne_of_lt (blk_lt (bg BK427.out)) : gb427 ≠ gb460)); have n8_ := Aside0.mk ((by rw [hg]; exact Nat.ne_of_gt (blk_lt (bg BK427.out)) : gb460 ≠ gb427)); clear HO_10; clear HO_12; clear BK427; clear HB; have HO_10 := n0_; have HO_12 := n1_; have BK427 := n2_; have HB := n3_; have BK460 := n4_; have GW460 := n5_; have GE460 := n6_; have NB427_460 := n7_; have NB460_427 := n8_; clear n0_ n1_ n2_ n3_ n4_ n5_ n6_ n7_ n8_; clear hb hbox hg; have hnb64 := NB460_427.out; have hnc64 := NB427_460.out; obtain ⟨hcz65_0, hcz65_1⟩ := bc2 BK460.out; obtain ⟨hfz65_0, hfz65_1⟩ := bf2 BK460.out; obtain ⟨hcz66_0, hcz66_1⟩ := bc2 BK427.out; obtain ⟨hfz66_0, hfz66_1⟩ := bf2 BK427.out; obtain ⟨Ao67, co67, eo67⟩ := Kd.R_slice HO_12.out; subst eo67) | ((with_reducible refine gate_dst (N := 15) rfl ?_); (try (refine gate_guard (by rfl) ?_; dsimp only)); refine box_event ?hg (N := 15) ?hd (cs := #[.slice none 0 0, .slice none 0 0]) (t := 25) ?hr ?_; (case hd => rfl); (case hg => rfl); (case hr => first | (go_simp; done) | (go_simp; rfl)); intro gb461 hg w68 hbox hb; have n0_ := Aside0.mk (Kd.R_below (by (with_reducible repeat (first | apply Kd.R_alloc | apply Kd.R_drewN | apply Kd.R_drew)); exact (Kd.R_mono (Kd.R_far (p := ⟨gb460, 1, none⟩) (Kd.R_far (p := ⟨gb460, 0, none⟩) (Kd.R_types HO_10.out BK460.out (by decide)) (fun _ hk => hk.2) (.slice A0_0 l0_0.length c0_0)) (fun _ hk => hk.2) (.slice Ao62 t449.length co62)) (fun _ h_ => h_.1))) hb); have n1_ := Aside0.mk (Kd.R_below (by (with_reducible repeat (first | apply Kd.R_alloc | apply Kd.R_drewN | apply Kd.R_drew)); exact (Kd.R_mono (Kd.R_far (p := ⟨gb460, 1, none⟩) (Kd.R_far (p := ⟨gb460, 0, none⟩) (Kd.R_types HO_12.out BK460.out (by decide)) (fun _ hk => hk.2) (.slice A0_0 l0_0.length c0_0)) (fun _ hk => hk.2) (.slice Ao62 t449.length co62)) (fun _ h_ => h_.1))) hb); have n2_ := Aside0.mk (blk_below (g := gb427) (o := .cells #[.slice A0_0 l0_0.length c0_0, .slice A0_1 l0_1.length c0_1] 25 (0, 0)) (by (iterate 2 (with_reducible repeat (first | refine blk_drewN ?_ _ | refine blk_drew ?_ | refine blk_alloc ?_ _)); refine blk_far ?_ NB427_460.out _); exact bg BK427.out) hb); have n3_ := Aside0.mk (blk_below (g := gb460) (o := .cells #[.slice A0_0 l0_0.length c0_0, .slice Ao62 t449.length co62] 25 (0, 0)) (by exact pt2 (bg BK460.out)) hb); have n4_ := Aside0.mk (below_step (bs HB.out) hb); have n5_ := Aside0.mk (hbox); have n6_ := Aside0.mk ((by rw [hg]; exact (below_size (bs HB.out)) : w.heap.size ≤ gb461)); have n7_ := n6_; have n8_ := Aside0.mk ((by rw [hg]; exact Nat.ne_of_lt (blk_lt (g := gb427) (o := .cells #[.slice A0_0 l0_0.length c0_0, .slice A0_1 l0_1.length c0_1] 25 (0, 0)) (by (iterate 2 (with_reducible repeat (first | refine blk_drewN ?_ _ | refine blk_drew ?_ | refine blk_alloc ?_ _)); refine blk_far ?_ NB427_460.out _); exact bg BK427.out)) : gb427 ≠ gb461)); have n9_ := Aside0.mk ((by rw [hg]; exact Nat.ne_of_gt (blk_lt (g := gb427) (o := .cells #[.slice A0_0 l0_0.length c0_0, .slice A0_1 l0_1.length c0_1] 25 (0, 0)) (by (iterate 2 (with_reducible repeat (first | refine blk_drewN ?_ _ | refine blk_drew ?_ | refine blk_alloc ?_ _)); refine blk_far ?_ NB427_460.out _); exact bg BK427.out)) : gb461 ≠ gb427)); have n10_ := Aside0.mk ((by rw [hg]; exact Nat.ne_of_lt (blk_lt (g := gb460) (o := .cells #[.slice A0_0 l0_0.length c0_0, .slice Ao62 t449.length co62] 25 (0, 0)) (by exact pt2 (bg BK460.out))) : gb460 ≠ gb461)); have n11_ := Aside0.mk ((by rw [hg]; exact Nat.ne_of_gt (blk_lt (g := gb460) (o := .cells #[.slice A0_0 l0_0.length c0_0, .slice Ao62 t449.length co62] 25 (0, 0)) (by exact pt2 (bg BK460.out))) : gb461 ≠ gb460)); clear HO_10; clear HO_12; clear BK427; clear BK460; clear HB; have HO_10 := n0_; have HO_12 := n1_; have BK427 := n2_; have BK460 := n3_; have HB := n4_; have BK461 := n5_; have GW461 := n6_; have GE461 := n7_; have NB427_461 := n8_; have NB461_427 := n9_; have NB460_461 := n10_; have NB461_460 := n11_; clear n0_ n1_ n2_ n3_ n4_ n5_ n6_ n7_ n8_ n9_ n10_ n11_; clear hb hbox hg; have hnb69 := NB461_427.out; have hnc69 := NB427_461.out; have hnb70 := NB461_460.out; have hnc70 := NB460_461.out; obtain ⟨hcz71_0, hcz71_1⟩ := bc2 BK461.out; obtain ⟨hfz71_0, hfz71_1⟩ := bf2 BK461.out; obtain ⟨hcz72_0, hcz72_1⟩ := bc2 BK460.out; obtain ⟨hfz72_0, hfz72_1⟩ := bf2 BK460.out; obtain ⟨hcz73_0, hcz73_1⟩ := bc2 BK427.out; obtain ⟨hfz73_0, hfz73_1⟩ := bf2 BK427.out) | ((with_reducible refine gate_callee (f := 21) rfl ?_); refine goesL_ (some 99) rfl rfl Try.func21 (by kernel_rfl) rfl #[.agg #[.slice A0_0 l0_0.length c0_0, .slice Ao62 t449.length co62], .agg #[.slice A0_0 l0_0.length c0_0, .slice A0_1 l0_1.length c0_1]] rfl (by (try simp only [List.map_toArray, List.map_cons, List.map_nil]); first | done | rfl | (simp only [List.length_drop, List.length_take]; rfl)) ?_; (with_reducible refine (signalbenchref09_Same.calls kj44 _ _ l0_0 _ _ t449 _ _ l0_0 _ _ l0_1 true _ ?side1 ?side2 ?side3 ?side4 ?side5 ?side6 ?side7 ?side8 A53.out).mono ?_); (case side1 => exact Kd.C_below HR0_0.out (bs HB.out)); (case side2 => exact HC0_0.out); (case side3 => refine (Kd.R_reads' (e := 46) (base := w.heap.size) (ok := fun k_ => some k_ ≠ (.slice Ao67 t456.length co67 : Value).ownBlock) (n := t449.length) (c := co62) ?_).2.2; exact (by (with_reducible repeat (first | apply Kd.R_alloc | apply Kd.R_drewN | apply Kd.R_drew)); exact (Kd.R_mono (Kd.R_far (p := ⟨gb461, 1, none⟩) (Kd.R_far (p := ⟨gb461, 0, none⟩) (Kd.R_types HO_10.out BK461.out (by decide)) (fun _ hk => hk.2) (.slice A0_0 l0_0.length c0_0)) (fun _ hk => hk.2) (.slice Ao67 t456.length co67)) (fun _ h_ => h_.1)))); (case side4 => exact (Kd.R_reads' HO_10.out).2.1); (case side5 => exact Kd.C_below HR0_0.out (bs HB.out)); (case side6 => exact HC0_0.out); (case side7 => exact Kd.C_below HR0_1.out (bs HB.out)); (case side8 => exact HC0_1.out); rintro e w74 ⟨rfl, hb⟩; refine ⟨_, rfl, ?_⟩; have n0_ := Aside0.mk (Kd.R_below (by (with_reducible repeat (first | apply Kd.R_alloc | apply Kd.R_drewN | apply Kd.R_drew)); exact (Kd.R_mono (Kd.R_far (p := ⟨gb461, 1, none⟩) (Kd.R_far (p := ⟨gb461, 0, none⟩) (Kd.R_types HO_10.out BK461.out (by decide)) (fun _ hk => hk.2) (.slice A0_0 l0_0.length c0_0)) (fun _ hk => hk.2) (.slice Ao67 t456.length co67)) (fun _ h_ => h_.1))) hb); have n1_ := Aside0.mk (Kd.R_below (by (with_reducible repeat (first | apply Kd.R_alloc | apply Kd.R_drewN | apply Kd.R_drew)); exact (Kd.R_mono (Kd.R_far (p := ⟨gb461, 1, none⟩) (Kd.R_far (p := ⟨gb461, 0, none⟩) (Kd.R_types HO_12.out BK461.out (by decide)) (fun _ hk => hk.2) (.slice A0_0 l0_0.length c0_0)) (fun _ hk => hk.2) (.slice Ao67 t456.length co67)) (fun _ h_ => h_.1))) hb); have n2_ := Aside0.mk (blk_below (g := gb427) (o := .cells #[.slice A0_0 l0_0.length c0_0, .slice A0_1 l0_1.length c0_1] 25 (0, 0)) (by (iterate 2 (with_reducible repeat (first | refine blk_drewN ?_ _ | refine blk_drew ?_ | refine blk_alloc ?_ _)); refine blk_far ?_ NB427_461.out _); exact bg BK427.out) hb); have n3_ := Aside0.mk (blk_below (g := gb460) (o := .cells #[.slice A0_0 l0_0.length c0_0, .slice Ao62 t449.length co62] 25 (0, 0)) (by (iterate 2 (with_reducible repeat (first | refine blk_drewN ?_ _ | refine blk_drew ?_ | refine blk_alloc ?_ _)); refine blk_far ?_ NB460_461.out _); exact bg BK460.out) hb); have n4_ := Aside0.mk (blk_below (g := gb461) (o := .cells #[.slice A0_0 l0_0.length c0_0, .slice Ao67 t456.length co67] 25 (0, 0)) (by exact pt2 (bg BK461.out)) hb); have n5_ := Aside0.mk (below_step (bs HB.out) hb); clear HO_10; clear HO_12; clear BK427; clear BK460; clear BK461; clear HB; have HO_10 := n0_; have HO_12 := n1_; have BK427 := n2_; have BK460 := n3_; have BK461 := n4_; have HB := n5_; clear n0_ n1_ n2_ n3_ n4_ n5_; (try clear hb); (try clear hb2); (try clear hk); (try clear hi); obtain ⟨hcz75_0, hcz75_1⟩ := bc2 BK461.out; obtain ⟨hfz75_0, hfz75_1⟩ := bf2 BK461.out; obtain ⟨hcz76_0, hcz76_1⟩ := bc2 BK427.out; obtain ⟨hfz76_0, hfz76_1⟩ := bf2 BK427.out) | (go_at_call 21; (with_reducible refine (signalbenchref09_Same.calls kj44 _ _ l0_0 _ _ t456 _ _ l0_0 _ _ l0_1 true _ ?side1 ?side2 ?side3 ?side4 ?side5 ?side6 ?side7 ?side8 A55.out).mono ?_); (case side1 => repeat (first | exact (Kd.C_below HR0_0.out HB.out) | (with_reducible refine Kd.C_alloc ?_ _) | (with_reducible refine Kd.C_drewN ?_ _) | (with_reducible refine Kd.C_drew ?_))); (case side2 => exact HC0_0.out); (case side3 => repeat (first | exact (Kd.R_reads' HO_12.out).2.2 | (with_reducible refine Kd.C_alloc ?_ _) | (with_reducible refine Kd.C_drewN ?_ _) | (with_reducible refine Kd.C_drew ?_))); (case side4 => exact (Kd.R_reads' HO_12.out).2.1); (case side5 => repeat (first | exact (Kd.C_below HR0_0.out HB.out) | (with_reducible refine Kd.C_alloc ?_ _) | (with_reducible refine Kd.C_drewN ?_ _) | (with_reducible refine Kd.C_drew ?_))); (case side6 => exact HC0_0.out); (case side7 => repeat (first | exact (Kd.C_below HR0_1.out HB.out) | (with_reducible refine Kd.C_alloc ?_ _) | (with_reducible refine Kd.C_drewN ?_ _) | (with_reducible refine Kd.C_drew ?_))); (case side8 => exact HC0_1.out); rintro e w77 ⟨rfl, hb⟩; have n0_ := Aside0.mk (Kd.R_below (rq HO_10.out) hb); have n1_ := Aside0.mk (Kd.R_below (rq HO_12.out) hb); have n2_ := Aside0.mk (blk_below (bg BK427.out) hb); have n3_ := Aside0.mk (blk_below (bg BK460.out) hb); have n4_ := Aside0.mk (blk_below (bg BK461.out) hb); have n5_ := Aside0.mk (below_step (bs HB.out) hb); clear HO_10; clear HO_12; clear BK427; clear BK460; clear BK461; clear HB; have HO_10 := n0_; have HO_12 := n1_; have BK427 := n2_; have BK460 := n3_; have BK461 := n4_; have HB := n5_; clear n0_ n1_ n2_ n3_ n4_ n5_; (try clear hb); (try clear hb2); (try clear hk); (try clear hi); obtain ⟨hcz78_0, hcz78_1⟩ := bc2 BK427.out; obtain ⟨hfz78_0, hfz78_1⟩ := bf2 BK427.out) | (go_at_call 22; (with_reducible refine (signalbenchref09_Clean.calls kj44 _ _ l0_1 t464 _ ?side1 ?side2 A57.out).mono ?_); (case side1 => repeat (first | exact (Kd.C_below HR0_1.out HB.out) | (with_reducible refine Kd.C_alloc ?_ _) | (with_reducible refine Kd.C_drewN ?_ _) | (with_reducible refine Kd.C_drew ?_))); (case side2 => exact HC0_1.out); rintro e w79 ⟨v465, rfl, ho0, hb⟩; have n0_ := Aside0.mk (Kd.R_elder' (rq HO_10.out) (Kd.R_base ho0) hb); have n1_ := Aside0.mk (Kd.R_elder' (rq HO_12.out) (Kd.R_base ho0) hb); have n2_ := Aside0.mk (Kd.R_lower (Kd.R_new' (Kd.R_new' ho0 (Kd.R_lt (rq HO_10.out))) (Kd.R_lt (rq HO_12.out))) (below_size (bs HB.out))); have n3_ := Aside0.mk (blk_below (bg BK427.out) hb); have n4_ := Aside0.mk (blk_below (bg BK460.out) hb); have n5_ := Aside0.mk (blk_below (bg BK461.out) hb); have n6_ := Aside0.mk (below_step (bs HB.out) hb); clear HO_10; clear HO_12; clear BK427; clear BK460; clear BK461; clear HB; have HO_10 := n0_; have HO_12 := n1_; have HO466 := n2_; have BK427 := n3_; have BK460 := n4_; have BK461 := n5_; have HB := n6_; clear n0_ n1_ n2_ n3_ n4_ n5_ n6_; (try clear hb); (try clear hb2); (try clear hk); (try clear hi); (try clear ho0); obtain ⟨Ao80, co80, eo80⟩ := Kd.R_slice HO466.out; subst eo80) | (go_at_call 19; (with_reducible refine (signalbenchref08_Same.calls kj44 _ _ t456 _ _ t464 true _ ?side1 ?side2 ?side3 ?side4 A58.out).mono ?_); (case side1 => repeat (first | exact (Kd.R_reads' HO_12.out).2.2 | (with_reducible refine Kd.C_alloc ?_ _) | (with_reducible refine Kd.C_drewN ?_ _) | (with_reducible refine Kd.C_drew ?_))); (case side2 => exact (Kd.R_reads' HO_12.out).2.1); (case side3 => repeat (first | exact (Kd.R_reads' HO466.out).2.2 | (with_reducible refine Kd.C_alloc ?_ _) | (with_reducible refine Kd.C_drewN ?_ _) | (with_reducible refine Kd.C_drew ?_))); (case side4 => exact (Kd.R_reads' HO466.out).2.1); rintro e w' ⟨rfl, ⟨nd, rfl⟩⟩) | (go_at_call 12; (with_reducible refine (signalbenchlaw14_awake.calls  t468 _ A60.out).mono ?_); rintro e w81 ⟨rfl, hb⟩; have n0_ := Aside0.mk (Kd.R_below (rq HO_10.out) hb); have n1_ := Aside0.mk (Kd.R_below (rq HO_12.out) hb); have n2_ := Aside0.mk (Kd.R_below (rq HO466.out) hb); have n3_ := Aside0.mk (blk_below (bg BK427.out) hb); have n4_ := Aside0.mk (blk_below (bg BK460.out) hb); have n5_ := Aside0.mk (blk_below (bg BK461.out) hb); have n6_ := Aside0.mk (below_step (bs HB.out) hb); clear HO_10; clear HO_12; clear HO466; clear BK427; clear BK460; clear BK461; clear HB; have HO_10 := n0_; have HO_12 := n1_; have HO466 := n2_; have BK427 := n3_; have BK460 := n4_; have BK461 := n5_; have HB := n6_; clear n0_ n1_ n2_ n3_ n4_ n5_ n6_; (try clear hb); (try clear hb2); (try clear hk); (try clear hi)))
                go_ret
                exact ⟨by first | rfl | (simp [errW_none, errW_some] <;> rfl) | (simp [*, errW_none, errW_some] <;> rfl), bs HB.out⟩
               ·
                replace c59 := Bool.eq_false_iff.mpr c59
                subst c59
                have H1 : (some false) = some r := by rw [if_neg (show ¬ (false = true) by decide)] at H; exact H
                clear H
                have H := H1
                clear H1
                obtain rfl := Option.some.inj H
                obtain ⟨hcz82_0, hcz82_1⟩ := bc2 BK427.out
                obtain ⟨hfz82_0, hfz82_1⟩ := bf2 BK427.out
                obtain ⟨Ao83, co83, eo83⟩ := Kd.R_slice HO_10.out
                subst eo83
                go_wp2_with (first | ((with_reducible refine gate_dst (N := 14) rfl ?_); (try (refine gate_guard (by rfl) ?_; dsimp only)); refine box_event ?hg (N := 14) ?hd (cs := #[.slice none 0 0, .slice none 0 0]) (t := 25) ?hr ?_; (case hd => rfl); (case hg => rfl); (case hr => first | (go_simp; done) | (go_simp; rfl)); intro gb460 hg w84 hbox hb; have n0_ := Aside0.mk (Kd.R_below (rq HO_10.out) hb); have n1_ := Aside0.mk (Kd.R_below (rq HO_12.out) hb); have n2_ := Aside0.mk (blk_below (bg BK427.out) hb); have n3_ := Aside0.mk (below_step (bs HB.out) hb); have n4_ := Aside0.mk (hbox); have n5_ := Aside0.mk ((by rw [hg]; exact (below_size (bs HB.out)) : w.heap.size ≤ gb460)); have n6_ := n5_; have n7_ := Aside0.mk ((by rw [hg]; exact Nat.ne_of_lt (blk_lt (bg BK427.out)) : gb427 ≠ gb460)); have n8_ := Aside0.mk ((by rw [hg]; exact Nat.ne_of_gt (blk_lt (bg BK427.out)) : gb460 ≠ gb427)); clear HO_10; clear HO_12; clear BK427; clear HB; have HO_10 := n0_; have HO_12 := n1_; have BK427 := n2_; have HB := n3_; have BK460 := n4_; have GW460 := n5_; have GE460 := n6_; have NB427_460 := n7_; have NB460_427 := n8_; clear n0_ n1_ n2_ n3_ n4_ n5_ n6_ n7_ n8_; clear hb hbox hg; have hnb85 := NB460_427.out; have hnc85 := NB427_460.out; obtain ⟨hcz86_0, hcz86_1⟩ := bc2 BK460.out; obtain ⟨hfz86_0, hfz86_1⟩ := bf2 BK460.out; obtain ⟨hcz87_0, hcz87_1⟩ := bc2 BK427.out; obtain ⟨hfz87_0, hfz87_1⟩ := bf2 BK427.out; obtain ⟨Ao88, co88, eo88⟩ := Kd.R_slice HO_12.out; subst eo88) | ((with_reducible refine gate_dst (N := 15) rfl ?_); (try (refine gate_guard (by rfl) ?_; dsimp only)); refine box_event ?hg (N := 15) ?hd (cs := #[.slice none 0 0, .slice none 0 0]) (t := 25) ?hr ?_; (case hd => rfl); (case hg => rfl); (case hr => first | (go_simp; done) | (go_simp; rfl)); intro gb461 hg w89 hbox hb; have n0_ := Aside0.mk (Kd.R_below (by (with_reducible repeat (first | apply Kd.R_alloc | apply Kd.R_drewN | apply Kd.R_drew)); exact (Kd.R_mono (Kd.R_far (p := ⟨gb460, 1, none⟩) (Kd.R_far (p := ⟨gb460, 0, none⟩) (Kd.R_types HO_10.out BK460.out (by decide)) (fun _ hk => hk.2) (.slice A0_0 l0_0.length c0_0)) (fun _ hk => hk.2) (.slice Ao83 t449.length co83)) (fun _ h_ => h_.1))) hb); have n1_ := Aside0.mk (Kd.R_below (by (with_reducible repeat (first | apply Kd.R_alloc | apply Kd.R_drewN | apply Kd.R_drew)); exact (Kd.R_mono (Kd.R_far (p := ⟨gb460, 1, none⟩) (Kd.R_far (p := ⟨gb460, 0, none⟩) (Kd.R_types HO_12.out BK460.out (by decide)) (fun _ hk => hk.2) (.slice A0_0 l0_0.length c0_0)) (fun _ hk => hk.2) (.slice Ao83 t449.length co83)) (fun _ h_ => h_.1))) hb); have n2_ := Aside0.mk (blk_below (g := gb427) (o := .cells #[.slice A0_0 l0_0.length c0_0, .slice A0_1 l0_1.length c0_1] 25 (0, 0)) (by (iterate 2 (with_reducible repeat (first | refine blk_drewN ?_ _ | refine blk_drew ?_ | refine blk_alloc ?_ _)); refine blk_far ?_ NB427_460.out _); exact bg BK427.out) hb); have n3_ := Aside0.mk (blk_below (g := gb460) (o := .cells #[.slice A0_0 l0_0.length c0_0, .slice Ao83 t449.length co83] 25 (0, 0)) (by exact pt2 (bg BK460.out)) hb); have n4_ := Aside0.mk (below_step (bs HB.out) hb); have n5_ := Aside0.mk (hbox); have n6_ := Aside0.mk ((by rw [hg]; exact (below_size (bs HB.out)) : w.heap.size ≤ gb461)); have n7_ := n6_; have n8_ := Aside0.mk ((by rw [hg]; exact Nat.ne_of_lt (blk_lt (g := gb427) (o := .cells #[.slice A0_0 l0_0.length c0_0, .slice A0_1 l0_1.length c0_1] 25 (0, 0)) (by (iterate 2 (with_reducible repeat (first | refine blk_drewN ?_ _ | refine blk_drew ?_ | refine blk_alloc ?_ _)); refine blk_far ?_ NB427_460.out _); exact bg BK427.out)) : gb427 ≠ gb461)); have n9_ := Aside0.mk ((by rw [hg]; exact Nat.ne_of_gt (blk_lt (g := gb427) (o := .cells #[.slice A0_0 l0_0.length c0_0, .slice A0_1 l0_1.length c0_1] 25 (0, 0)) (by (iterate 2 (with_reducible repeat (first | refine blk_drewN ?_ _ | refine blk_drew ?_ | refine blk_alloc ?_ _)); refine blk_far ?_ NB427_460.out _); exact bg BK427.out)) : gb461 ≠ gb427)); have n10_ := Aside0.mk ((by rw [hg]; exact Nat.ne_of_lt (blk_lt (g := gb460) (o := .cells #[.slice A0_0 l0_0.length c0_0, .slice Ao83 t449.length co83] 25 (0, 0)) (by exact pt2 (bg BK460.out))) : gb460 ≠ gb461)); have n11_ := Aside0.mk ((by rw [hg]; exact Nat.ne_of_gt (blk_lt (g := gb460) (o := .cells #[.slice A0_0 l0_0.length c0_0, .slice Ao83 t449.length co83] 25 (0, 0)) (by exact pt2 (bg BK460.out))) : gb461 ≠ gb460)); clear HO_10; clear HO_12; clear BK427; clear BK460; clear HB; have HO_10 := n0_; have HO_12 := n1_; have BK427 := n2_; have BK460 := n3_; have HB := n4_; have BK461 := n5_; have GW461 := n6_; have GE461 := n7_; have NB427_461 := n8_; have NB461_427 := n9_; have NB460_461 := n10_; have NB461_460 := n11_; clear n0_ n1_ n2_ n3_ n4_ n5_ n6_ n7_ n8_ n9_ n10_ n11_; clear hb hbox hg; have hnb90 := NB461_427.out; have hnc90 := NB427_461.out; have hnb91 := NB461_460.out; have hnc91 := NB460_461.out; obtain ⟨hcz92_0, hcz92_1⟩ := bc2 BK461.out; obtain ⟨hfz92_0, hfz92_1⟩ := bf2 BK461.out; obtain ⟨hcz93_0, hcz93_1⟩ := bc2 BK460.out; obtain ⟨hfz93_0, hfz93_1⟩ := bf2 BK460.out; obtain ⟨hcz94_0, hcz94_1⟩ := bc2 BK427.out; obtain ⟨hfz94_0, hfz94_1⟩ := bf2 BK427.out) | ((with_reducible refine gate_callee (f := 21) rfl ?_); refine goesL_ (some 99) rfl rfl Try.func21 (by kernel_rfl) rfl #[.agg #[.slice A0_0 l0_0.length c0_0, .slice Ao83 t449.length co83], .agg #[.slice A0_0 l0_0.length c0_0, .slice A0_1 l0_1.length c0_1]] rfl (by (try simp only [List.map_toArray, List.map_cons, List.map_nil]); first | done | rfl | (simp only [List.length_drop, List.length_take]; rfl)) ?_; (with_reducible refine (signalbenchref09_Same.calls kj44 _ _ l0_0 _ _ t449 _ _ l0_0 _ _ l0_1 true _ ?side1 ?side2 ?side3 ?side4 ?side5 ?side6 ?side7 ?side8 A53.out).mono ?_); (case side1 => exact Kd.C_below HR0_0.out (bs HB.out)); (case side2 => exact HC0_0.out); (case side3 => refine (Kd.R_reads' (e := 46) (base := w.heap.size) (ok := fun k_ => some k_ ≠ (.slice Ao88 t456.length co88 : Value).ownBlock) (n := t449.length) (c := co83) ?_).2.2; exact (by (with_reducible repeat (first | apply Kd.R_alloc | apply Kd.R_drewN | apply Kd.R_drew)); exact (Kd.R_mono (Kd.R_far (p := ⟨gb461, 1, none⟩) (Kd.R_far (p := ⟨gb461, 0, none⟩) (Kd.R_types HO_10.out BK461.out (by decide)) (fun _ hk => hk.2) (.slice A0_0 l0_0.length c0_0)) (fun _ hk => hk.2) (.slice Ao88 t456.length co88)) (fun _ h_ => h_.1)))); (case side4 => exact (Kd.R_reads' HO_10.out).2.1); (case side5 => exact Kd.C_below HR0_0.out (bs HB.out)); (case side6 => exact HC0_0.out); (case side7 => exact Kd.C_below HR0_1.out (bs HB.out)); (case side8 => exact HC0_1.out); rintro e w95 ⟨rfl, hb⟩; refine ⟨_, rfl, ?_⟩; have n0_ := Aside0.mk (Kd.R_below (by (with_reducible repeat (first | apply Kd.R_alloc | apply Kd.R_drewN | apply Kd.R_drew)); exact (Kd.R_mono (Kd.R_far (p := ⟨gb461, 1, none⟩) (Kd.R_far (p := ⟨gb461, 0, none⟩) (Kd.R_types HO_10.out BK461.out (by decide)) (fun _ hk => hk.2) (.slice A0_0 l0_0.length c0_0)) (fun _ hk => hk.2) (.slice Ao88 t456.length co88)) (fun _ h_ => h_.1))) hb); have n1_ := Aside0.mk (Kd.R_below (by (with_reducible repeat (first | apply Kd.R_alloc | apply Kd.R_drewN | apply Kd.R_drew)); exact (Kd.R_mono (Kd.R_far (p := ⟨gb461, 1, none⟩) (Kd.R_far (p := ⟨gb461, 0, none⟩) (Kd.R_types HO_12.out BK461.out (by decide)) (fun _ hk => hk.2) (.slice A0_0 l0_0.length c0_0)) (fun _ hk => hk.2) (.slice Ao88 t456.length co88)) (fun _ h_ => h_.1))) hb); have n2_ := Aside0.mk (blk_below (g := gb427) (o := .cells #[.slice A0_0 l0_0.length c0_0, .slice A0_1 l0_1.length c0_1] 25 (0, 0)) (by (iterate 2 (with_reducible repeat (first | refine blk_drewN ?_ _ | refine blk_drew ?_ | refine blk_alloc ?_ _)); refine blk_far ?_ NB427_461.out _); exact bg BK427.out) hb); have n3_ := Aside0.mk (blk_below (g := gb460) (o := .cells #[.slice A0_0 l0_0.length c0_0, .slice Ao83 t449.length co83] 25 (0, 0)) (by (iterate 2 (with_reducible repeat (first | refine blk_drewN ?_ _ | refine blk_drew ?_ | refine blk_alloc ?_ _)); refine blk_far ?_ NB460_461.out _); exact bg BK460.out) hb); have n4_ := Aside0.mk (blk_below (g := gb461) (o := .cells #[.slice A0_0 l0_0.length c0_0, .slice Ao88 t456.length co88] 25 (0, 0)) (by exact pt2 (bg BK461.out)) hb); have n5_ := Aside0.mk (below_step (bs HB.out) hb); clear HO_10; clear HO_12; clear BK427; clear BK460; clear BK461; clear HB; have HO_10 := n0_; have HO_12 := n1_; have BK427 := n2_; have BK460 := n3_; have BK461 := n4_; have HB := n5_; clear n0_ n1_ n2_ n3_ n4_ n5_; (try clear hb); (try clear hb2); (try clear hk); (try clear hi); obtain ⟨hcz96_0, hcz96_1⟩ := bc2 BK461.out; obtain ⟨hfz96_0, hfz96_1⟩ := bf2 BK461.out; obtain ⟨hcz97_0, hcz97_1⟩ := bc2 BK427.out; obtain ⟨hfz97_0, hfz97_1⟩ := bf2 BK427.out) | (go_at_call 21; (with_reducible refine (signalbenchref09_Same.calls kj44 _ _ l0_0 _ _ t456 _ _ l0_0 _ _ l0_1 true _ ?side1 ?side2 ?side3 ?side4 ?side5 ?side6 ?side7 ?side8 A55.out).mono ?_); (case side1 => repeat (first | exact (Kd.C_below HR0_0.out HB.out) | (with_reducible refine Kd.C_alloc ?_ _) | (with_reducible refine Kd.C_drewN ?_ _) | (with_reducible refine Kd.C_drew ?_))); (case side2 => exact HC0_0.out); (case side3 => repeat (first | exact (Kd.R_reads' HO_12.out).2.2 | (with_reducible refine Kd.C_alloc ?_ _) | (with_reducible refine Kd.C_drewN ?_ _) | (with_reducible refine Kd.C_drew ?_))); (case side4 => exact (Kd.R_reads' HO_12.out).2.1); (case side5 => repeat (first | exact (Kd.C_below HR0_0.out HB.out) | (with_reducible refine Kd.C_alloc ?_ _) | (with_reducible refine Kd.C_drewN ?_ _) | (with_reducible refine Kd.C_drew ?_))); (case side6 => exact HC0_0.out); (case side7 => repeat (first | exact (Kd.C_below HR0_1.out HB.out) | (with_reducible refine Kd.C_alloc ?_ _) | (with_reducible refine Kd.C_drewN ?_ _) | (with_reducible refine Kd.C_drew ?_))); (case side8 => exact HC0_1.out); rintro e w98 ⟨rfl, hb⟩; have n0_ := Aside0.mk (Kd.R_below (rq HO_10.out) hb); have n1_ := Aside0.mk (Kd.R_below (rq HO_12.out) hb); have n2_ := Aside0.mk (blk_below (bg BK427.out) hb); have n3_ := Aside0.mk (blk_below (bg BK460.out) hb); have n4_ := Aside0.mk (blk_below (bg BK461.out) hb); have n5_ := Aside0.mk (below_step (bs HB.out) hb); clear HO_10; clear HO_12; clear BK427; clear BK460; clear BK461; clear HB; have HO_10 := n0_; have HO_12 := n1_; have BK427 := n2_; have BK460 := n3_; have BK461 := n4_; have HB := n5_; clear n0_ n1_ n2_ n3_ n4_ n5_; (try clear hb); (try clear hb2); (try clear hk); (try clear hi); obtain ⟨hcz99_0, hcz99_1⟩ := bc2 BK427.out; obtain ⟨hfz99_0, hfz99_1⟩ := bf2 BK427.out) | (go_at_call 22; (with_reducible refine (signalbenchref09_Clean.calls kj44 _ _ l0_1 t464 _ ?side1 ?side2 A57.out).mono ?_); (case side1 => repeat (first | exact (Kd.C_below HR0_1.out HB.out) | (with_reducible refine Kd.C_alloc ?_ _) | (with_reducible refine Kd.C_drewN ?_ _) | (with_reducible refine Kd.C_drew ?_))); (case side2 => exact HC0_1.out); rintro e w100 ⟨v465, rfl, ho0, hb⟩; have n0_ := Aside0.mk (Kd.R_elder' (rq HO_10.out) (Kd.R_base ho0) hb); have n1_ := Aside0.mk (Kd.R_elder' (rq HO_12.out) (Kd.R_base ho0) hb); have n2_ := Aside0.mk (Kd.R_lower (Kd.R_new' (Kd.R_new' ho0 (Kd.R_lt (rq HO_10.out))) (Kd.R_lt (rq HO_12.out))) (below_size (bs HB.out))); have n3_ := Aside0.mk (blk_below (bg BK427.out) hb); have n4_ := Aside0.mk (blk_below (bg BK460.out) hb); have n5_ := Aside0.mk (blk_below (bg BK461.out) hb); have n6_ := Aside0.mk (below_step (bs HB.out) hb); clear HO_10; clear HO_12; clear BK427; clear BK460; clear BK461; clear HB; have HO_10 := n0_; have HO_12 := n1_; have HO466 := n2_; have BK427 := n3_; have BK460 := n4_; have BK461 := n5_; have HB := n6_; clear n0_ n1_ n2_ n3_ n4_ n5_ n6_; (try clear hb); (try clear hb2); (try clear hk); (try clear hi); (try clear ho0); obtain ⟨Ao101, co101, eo101⟩ := Kd.R_slice HO466.out; subst eo101) | (go_at_call 19; (with_reducible refine (signalbenchref08_Same.calls kj44 _ _ t456 _ _ t464 false _ ?side1 ?side2 ?side3 ?side4 A58.out).mono ?_); (case side1 => repeat (first | exact (Kd.R_reads' HO_12.out).2.2 | (with_reducible refine Kd.C_alloc ?_ _) | (with_reducible refine Kd.C_drewN ?_ _) | (with_reducible refine Kd.C_drew ?_))); (case side2 => exact (Kd.R_reads' HO_12.out).2.1); (case side3 => repeat (first | exact (Kd.R_reads' HO466.out).2.2 | (with_reducible refine Kd.C_alloc ?_ _) | (with_reducible refine Kd.C_drewN ?_ _) | (with_reducible refine Kd.C_drew ?_))); (case side4 => exact (Kd.R_reads' HO466.out).2.1); rintro e w' ⟨rfl, ⟨nd, rfl⟩⟩))
                go_ret
                exact ⟨by first | rfl | (simp [errW_none, errW_some] <;> rfl) | (simp [*, errW_none, errW_some] <;> rfl), bs HB.out⟩
              ·
               replace c56 := Bool.eq_false_iff.mpr c56
               subst c56
               have H1 : (some false) = some r := by rw [if_neg (show ¬ (false = true) by decide)] at H; exact H
               clear H
               have H := H1
               clear H1
               obtain rfl := Option.some.inj H
               obtain ⟨hcz102_0, hcz102_1⟩ := bc2 BK427.out
               obtain ⟨hfz102_0, hfz102_1⟩ := bf2 BK427.out
               obtain ⟨Ao103, co103, eo103⟩ := Kd.R_slice HO_10.out
               subst eo103
               go_wp2_with (first | ((with_reducible refine gate_dst (N := 14) rfl ?_); (try (refine gate_guard (by rfl) ?_; dsimp only)); refine box_event ?hg (N := 14) ?hd (cs := #[.slice none 0 0, .slice none 0 0]) (t := 25) ?hr ?_; (case hd => rfl); (case hg => rfl); (case hr => first | (go_simp; done) | (go_simp; rfl)); intro gb460 hg w104 hbox hb; have n0_ := Aside0.mk (Kd.R_below (rq HO_10.out) hb); have n1_ := Aside0.mk (Kd.R_below (rq HO_12.out) hb); have n2_ := Aside0.mk (blk_below (bg BK427.out) hb); have n3_ := Aside0.mk (below_step (bs HB.out) hb); have n4_ := Aside0.mk (hbox); have n5_ := Aside0.mk ((by rw [hg]; exact (below_size (bs HB.out)) : w.heap.size ≤ gb460)); have n6_ := n5_; have n7_ := Aside0.mk ((by rw [hg]; exact Nat.ne_of_lt (blk_lt (bg BK427.out)) : gb427 ≠ gb460)); have n8_ := Aside0.mk ((by rw [hg]; exact Nat.ne_of_gt (blk_lt (bg BK427.out)) : gb460 ≠ gb427)); clear HO_10; clear HO_12; clear BK427; clear HB; have HO_10 := n0_; have HO_12 := n1_; have BK427 := n2_; have HB := n3_; have BK460 := n4_; have GW460 := n5_; have GE460 := n6_; have NB427_460 := n7_; have NB460_427 := n8_; clear n0_ n1_ n2_ n3_ n4_ n5_ n6_ n7_ n8_; clear hb hbox hg; have hnb105 := NB460_427.out; have hnc105 := NB427_460.out; obtain ⟨hcz106_0, hcz106_1⟩ := bc2 BK460.out; obtain ⟨hfz106_0, hfz106_1⟩ := bf2 BK460.out; obtain ⟨hcz107_0, hcz107_1⟩ := bc2 BK427.out; obtain ⟨hfz107_0, hfz107_1⟩ := bf2 BK427.out; obtain ⟨Ao108, co108, eo108⟩ := Kd.R_slice HO_12.out; subst eo108) | ((with_reducible refine gate_dst (N := 15) rfl ?_); (try (refine gate_guard (by rfl) ?_; dsimp only)); refine box_event ?hg (N := 15) ?hd (cs := #[.slice none 0 0, .slice none 0 0]) (t := 25) ?hr ?_; (case hd => rfl); (case hg => rfl); (case hr => first | (go_simp; done) | (go_simp; rfl)); intro gb461 hg w109 hbox hb; have n0_ := Aside0.mk (Kd.R_below (by (with_reducible repeat (first | apply Kd.R_alloc | apply Kd.R_drewN | apply Kd.R_drew)); exact (Kd.R_mono (Kd.R_far (p := ⟨gb460, 1, none⟩) (Kd.R_far (p := ⟨gb460, 0, none⟩) (Kd.R_types HO_10.out BK460.out (by decide)) (fun _ hk => hk.2) (.slice A0_0 l0_0.length c0_0)) (fun _ hk => hk.2) (.slice Ao103 t449.length co103)) (fun _ h_ => h_.1))) hb); have n1_ := Aside0.mk (Kd.R_below (by (with_reducible repeat (first | apply Kd.R_alloc | apply Kd.R_drewN | apply Kd.R_drew)); exact (Kd.R_mono (Kd.R_far (p := ⟨gb460, 1, none⟩) (Kd.R_far (p := ⟨gb460, 0, none⟩) (Kd.R_types HO_12.out BK460.out (by decide)) (fun _ hk => hk.2) (.slice A0_0 l0_0.length c0_0)) (fun _ hk => hk.2) (.slice Ao103 t449.length co103)) (fun _ h_ => h_.1))) hb); have n2_ := Aside0.mk (blk_below (g := gb427) (o := .cells #[.slice A0_0 l0_0.length c0_0, .slice A0_1 l0_1.length c0_1] 25 (0, 0)) (by (iterate 2 (with_reducible repeat (first | refine blk_drewN ?_ _ | refine blk_drew ?_ | refine blk_alloc ?_ _)); refine blk_far ?_ NB427_460.out _); exact bg BK427.out) hb); have n3_ := Aside0.mk (blk_below (g := gb460) (o := .cells #[.slice A0_0 l0_0.length c0_0, .slice Ao103 t449.length co103] 25 (0, 0)) (by exact pt2 (bg BK460.out)) hb); have n4_ := Aside0.mk (below_step (bs HB.out) hb); have n5_ := Aside0.mk (hbox); have n6_ := Aside0.mk ((by rw [hg]; exact (below_size (bs HB.out)) : w.heap.size ≤ gb461)); have n7_ := n6_; have n8_ := Aside0.mk ((by rw [hg]; exact Nat.ne_of_lt (blk_lt (g := gb427) (o := .cells #[.slice A0_0 l0_0.length c0_0, .slice A0_1 l0_1.length c0_1] 25 (0, 0)) (by (iterate 2 (with_reducible repeat (first | refine blk_drewN ?_ _ | refine blk_drew ?_ | refine blk_alloc ?_ _)); refine blk_far ?_ NB427_460.out _); exact bg BK427.out)) : gb427 ≠ gb461)); have n9_ := Aside0.mk ((by rw [hg]; exact Nat.ne_of_gt (blk_lt (g := gb427) (o := .cells #[.slice A0_0 l0_0.length c0_0, .slice A0_1 l0_1.length c0_1] 25 (0, 0)) (by (iterate 2 (with_reducible repeat (first | refine blk_drewN ?_ _ | refine blk_drew ?_ | refine blk_alloc ?_ _)); refine blk_far ?_ NB427_460.out _); exact bg BK427.out)) : gb461 ≠ gb427)); have n10_ := Aside0.mk ((by rw [hg]; exact Nat.ne_of_lt (blk_lt (g := gb460) (o := .cells #[.slice A0_0 l0_0.length c0_0, .slice Ao103 t449.length co103] 25 (0, 0)) (by exact pt2 (bg BK460.out))) : gb460 ≠ gb461)); have n11_ := Aside0.mk ((by rw [hg]; exact Nat.ne_of_gt (blk_lt (g := gb460) (o := .cells #[.slice A0_0 l0_0.length c0_0, .slice Ao103 t449.length co103] 25 (0, 0)) (by exact pt2 (bg BK460.out))) : gb461 ≠ gb460)); clear HO_10; clear HO_12; clear BK427; clear BK460; clear HB; have HO_10 := n0_; have HO_12 := n1_; have BK427 := n2_; have BK460 := n3_; have HB := n4_; have BK461 := n5_; have GW461 := n6_; have GE461 := n7_; have NB427_461 := n8_; have NB461_427 := n9_; have NB460_461 := n10_; have NB461_460 := n11_; clear n0_ n1_ n2_ n3_ n4_ n5_ n6_ n7_ n8_ n9_ n10_ n11_; clear hb hbox hg; have hnb110 := NB461_427.out; have hnc110 := NB427_461.out; have hnb111 := NB461_460.out; have hnc111 := NB460_461.out; obtain ⟨hcz112_0, hcz112_1⟩ := bc2 BK461.out; obtain ⟨hfz112_0, hfz112_1⟩ := bf2 BK461.out; obtain ⟨hcz113_0, hcz113_1⟩ := bc2 BK460.out; obtain ⟨hfz113_0, hfz113_1⟩ := bf2 BK460.out; obtain ⟨hcz114_0, hcz114_1⟩ := bc2 BK427.out; obtain ⟨hfz114_0, hfz114_1⟩ := bf2 BK427.out) | ((with_reducible refine gate_callee (f := 21) rfl ?_); refine goesL_ (some 99) rfl rfl Try.func21 (by kernel_rfl) rfl #[.agg #[.slice A0_0 l0_0.length c0_0, .slice Ao103 t449.length co103], .agg #[.slice A0_0 l0_0.length c0_0, .slice A0_1 l0_1.length c0_1]] rfl (by (try simp only [List.map_toArray, List.map_cons, List.map_nil]); first | done | rfl | (simp only [List.length_drop, List.length_take]; rfl)) ?_; (with_reducible refine (signalbenchref09_Same.calls kj44 _ _ l0_0 _ _ t449 _ _ l0_0 _ _ l0_1 true _ ?side1 ?side2 ?side3 ?side4 ?side5 ?side6 ?side7 ?side8 A53.out).mono ?_); (case side1 => exact Kd.C_below HR0_0.out (bs HB.out)); (case side2 => exact HC0_0.out); (case side3 => refine (Kd.R_reads' (e := 46) (base := w.heap.size) (ok := fun k_ => some k_ ≠ (.slice Ao108 t456.length co108 : Value).ownBlock) (n := t449.length) (c := co103) ?_).2.2; exact (by (with_reducible repeat (first | apply Kd.R_alloc | apply Kd.R_drewN | apply Kd.R_drew)); exact (Kd.R_mono (Kd.R_far (p := ⟨gb461, 1, none⟩) (Kd.R_far (p := ⟨gb461, 0, none⟩) (Kd.R_types HO_10.out BK461.out (by decide)) (fun _ hk => hk.2) (.slice A0_0 l0_0.length c0_0)) (fun _ hk => hk.2) (.slice Ao108 t456.length co108)) (fun _ h_ => h_.1)))); (case side4 => exact (Kd.R_reads' HO_10.out).2.1); (case side5 => exact Kd.C_below HR0_0.out (bs HB.out)); (case side6 => exact HC0_0.out); (case side7 => exact Kd.C_below HR0_1.out (bs HB.out)); (case side8 => exact HC0_1.out); rintro e w115 ⟨rfl, hb⟩; refine ⟨_, rfl, ?_⟩; have n0_ := Aside0.mk (Kd.R_below (by (with_reducible repeat (first | apply Kd.R_alloc | apply Kd.R_drewN | apply Kd.R_drew)); exact (Kd.R_mono (Kd.R_far (p := ⟨gb461, 1, none⟩) (Kd.R_far (p := ⟨gb461, 0, none⟩) (Kd.R_types HO_10.out BK461.out (by decide)) (fun _ hk => hk.2) (.slice A0_0 l0_0.length c0_0)) (fun _ hk => hk.2) (.slice Ao108 t456.length co108)) (fun _ h_ => h_.1))) hb); have n1_ := Aside0.mk (Kd.R_below (by (with_reducible repeat (first | apply Kd.R_alloc | apply Kd.R_drewN | apply Kd.R_drew)); exact (Kd.R_mono (Kd.R_far (p := ⟨gb461, 1, none⟩) (Kd.R_far (p := ⟨gb461, 0, none⟩) (Kd.R_types HO_12.out BK461.out (by decide)) (fun _ hk => hk.2) (.slice A0_0 l0_0.length c0_0)) (fun _ hk => hk.2) (.slice Ao108 t456.length co108)) (fun _ h_ => h_.1))) hb); have n2_ := Aside0.mk (blk_below (g := gb427) (o := .cells #[.slice A0_0 l0_0.length c0_0, .slice A0_1 l0_1.length c0_1] 25 (0, 0)) (by (iterate 2 (with_reducible repeat (first | refine blk_drewN ?_ _ | refine blk_drew ?_ | refine blk_alloc ?_ _)); refine blk_far ?_ NB427_461.out _); exact bg BK427.out) hb); have n3_ := Aside0.mk (blk_below (g := gb460) (o := .cells #[.slice A0_0 l0_0.length c0_0, .slice Ao103 t449.length co103] 25 (0, 0)) (by (iterate 2 (with_reducible repeat (first | refine blk_drewN ?_ _ | refine blk_drew ?_ | refine blk_alloc ?_ _)); refine blk_far ?_ NB460_461.out _); exact bg BK460.out) hb); have n4_ := Aside0.mk (blk_below (g := gb461) (o := .cells #[.slice A0_0 l0_0.length c0_0, .slice Ao108 t456.length co108] 25 (0, 0)) (by exact pt2 (bg BK461.out)) hb); have n5_ := Aside0.mk (below_step (bs HB.out) hb); clear HO_10; clear HO_12; clear BK427; clear BK460; clear BK461; clear HB; have HO_10 := n0_; have HO_12 := n1_; have BK427 := n2_; have BK460 := n3_; have BK461 := n4_; have HB := n5_; clear n0_ n1_ n2_ n3_ n4_ n5_; (try clear hb); (try clear hb2); (try clear hk); (try clear hi); obtain ⟨hcz116_0, hcz116_1⟩ := bc2 BK461.out; obtain ⟨hfz116_0, hfz116_1⟩ := bf2 BK461.out; obtain ⟨hcz117_0, hcz117_1⟩ := bc2 BK427.out; obtain ⟨hfz117_0, hfz117_1⟩ := bf2 BK427.out) | (go_at_call 21; (with_reducible refine (signalbenchref09_Same.calls kj44 _ _ l0_0 _ _ t456 _ _ l0_0 _ _ l0_1 false _ ?side1 ?side2 ?side3 ?side4 ?side5 ?side6 ?side7 ?side8 A55.out).mono ?_); (case side1 => repeat (first | exact (Kd.C_below HR0_0.out HB.out) | (with_reducible refine Kd.C_alloc ?_ _) | (with_reducible refine Kd.C_drewN ?_ _) | (with_reducible refine Kd.C_drew ?_))); (case side2 => exact HC0_0.out); (case side3 => repeat (first | exact (Kd.R_reads' HO_12.out).2.2 | (with_reducible refine Kd.C_alloc ?_ _) | (with_reducible refine Kd.C_drewN ?_ _) | (with_reducible refine Kd.C_drew ?_))); (case side4 => exact (Kd.R_reads' HO_12.out).2.1); (case side5 => repeat (first | exact (Kd.C_below HR0_0.out HB.out) | (with_reducible refine Kd.C_alloc ?_ _) | (with_reducible refine Kd.C_drewN ?_ _) | (with_reducible refine Kd.C_drew ?_))); (case side6 => exact HC0_0.out); (case side7 => repeat (first | exact (Kd.C_below HR0_1.out HB.out) | (with_reducible refine Kd.C_alloc ?_ _) | (with_reducible refine Kd.C_drewN ?_ _) | (with_reducible refine Kd.C_drew ?_))); (case side8 => exact HC0_1.out); rintro e w118 ⟨rfl, hb⟩; have n0_ := Aside0.mk (Kd.R_below (rq HO_10.out) hb); have n1_ := Aside0.mk (Kd.R_below (rq HO_12.out) hb); have n2_ := Aside0.mk (blk_below (bg BK427.out) hb); have n3_ := Aside0.mk (blk_below (bg BK460.out) hb); have n4_ := Aside0.mk (blk_below (bg BK461.out) hb); have n5_ := Aside0.mk (below_step (bs HB.out) hb); clear HO_10; clear HO_12; clear BK427; clear BK460; clear BK461; clear HB; have HO_10 := n0_; have HO_12 := n1_; have BK427 := n2_; have BK460 := n3_; have BK461 := n4_; have HB := n5_; clear n0_ n1_ n2_ n3_ n4_ n5_; (try clear hb); (try clear hb2); (try clear hk); (try clear hi)))
               go_ret
               exact ⟨by first | rfl | (simp [errW_none, errW_some] <;> rfl) | (simp [*, errW_none, errW_some] <;> rfl), bs HB.out⟩
             ·
              replace c54 := Bool.eq_false_iff.mpr c54
              subst c54
              have H1 : (some false) = some r := by rw [if_neg (show ¬ (false = true) by decide)] at H; exact H
              clear H
              have H := H1
              clear H1
              obtain rfl := Option.some.inj H
              obtain ⟨hcz119_0, hcz119_1⟩ := bc2 BK427.out
              obtain ⟨hfz119_0, hfz119_1⟩ := bf2 BK427.out
              obtain ⟨Ao120, co120, eo120⟩ := Kd.R_slice HO_10.out
              subst eo120
              go_wp2_with (first | ((with_reducible refine gate_dst (N := 14) rfl ?_); (try (refine gate_guard (by rfl) ?_; dsimp only)); refine box_event ?hg (N := 14) ?hd (cs := #[.slice none 0 0, .slice none 0 0]) (t := 25) ?hr ?_; (case hd => rfl); (case hg => rfl); (case hr => first | (go_simp; done) | (go_simp; rfl)); intro gb460 hg w121 hbox hb; have n0_ := Aside0.mk (Kd.R_below (rq HO_10.out) hb); have n1_ := Aside0.mk (Kd.R_below (rq HO_12.out) hb); have n2_ := Aside0.mk (blk_below (bg BK427.out) hb); have n3_ := Aside0.mk (below_step (bs HB.out) hb); have n4_ := Aside0.mk (hbox); have n5_ := Aside0.mk ((by rw [hg]; exact (below_size (bs HB.out)) : w.heap.size ≤ gb460)); have n6_ := n5_; have n7_ := Aside0.mk ((by rw [hg]; exact Nat.ne_of_lt (blk_lt (bg BK427.out)) : gb427 ≠ gb460)); have n8_ := Aside0.mk ((by rw [hg]; exact Nat.ne_of_gt (blk_lt (bg BK427.out)) : gb460 ≠ gb427)); clear HO_10; clear HO_12; clear BK427; clear HB; have HO_10 := n0_; have HO_12 := n1_; have BK427 := n2_; have HB := n3_; have BK460 := n4_; have GW460 := n5_; have GE460 := n6_; have NB427_460 := n7_; have NB460_427 := n8_; clear n0_ n1_ n2_ n3_ n4_ n5_ n6_ n7_ n8_; clear hb hbox hg; have hnb122 := NB460_427.out; have hnc122 := NB427_460.out; obtain ⟨hcz123_0, hcz123_1⟩ := bc2 BK460.out; obtain ⟨hfz123_0, hfz123_1⟩ := bf2 BK460.out; obtain ⟨hcz124_0, hcz124_1⟩ := bc2 BK427.out; obtain ⟨hfz124_0, hfz124_1⟩ := bf2 BK427.out; obtain ⟨Ao125, co125, eo125⟩ := Kd.R_slice HO_12.out; subst eo125) | ((with_reducible refine gate_dst (N := 15) rfl ?_); (try (refine gate_guard (by rfl) ?_; dsimp only)); refine box_event ?hg (N := 15) ?hd (cs := #[.slice none 0 0, .slice none 0 0]) (t := 25) ?hr ?_; (case hd => rfl); (case hg => rfl); (case hr => first | (go_simp; done) | (go_simp; rfl)); intro gb461 hg w126 hbox hb; have n0_ := Aside0.mk (Kd.R_below (by (with_reducible repeat (first | apply Kd.R_alloc | apply Kd.R_drewN | apply Kd.R_drew)); exact (Kd.R_mono (Kd.R_far (p := ⟨gb460, 1, none⟩) (Kd.R_far (p := ⟨gb460, 0, none⟩) (Kd.R_types HO_10.out BK460.out (by decide)) (fun _ hk => hk.2) (.slice A0_0 l0_0.length c0_0)) (fun _ hk => hk.2) (.slice Ao120 t449.length co120)) (fun _ h_ => h_.1))) hb); have n1_ := Aside0.mk (Kd.R_below (by (with_reducible repeat (first | apply Kd.R_alloc | apply Kd.R_drewN | apply Kd.R_drew)); exact (Kd.R_mono (Kd.R_far (p := ⟨gb460, 1, none⟩) (Kd.R_far (p := ⟨gb460, 0, none⟩) (Kd.R_types HO_12.out BK460.out (by decide)) (fun _ hk => hk.2) (.slice A0_0 l0_0.length c0_0)) (fun _ hk => hk.2) (.slice Ao120 t449.length co120)) (fun _ h_ => h_.1))) hb); have n2_ := Aside0.mk (blk_below (g := gb427) (o := .cells #[.slice A0_0 l0_0.length c0_0, .slice A0_1 l0_1.length c0_1] 25 (0, 0)) (by (iterate 2 (with_reducible repeat (first | refine blk_drewN ?_ _ | refine blk_drew ?_ | refine blk_alloc ?_ _)); refine blk_far ?_ NB427_460.out _); exact bg BK427.out) hb); have n3_ := Aside0.mk (blk_below (g := gb460) (o := .cells #[.slice A0_0 l0_0.length c0_0, .slice Ao120 t449.length co120] 25 (0, 0)) (by exact pt2 (bg BK460.out)) hb); have n4_ := Aside0.mk (below_step (bs HB.out) hb); have n5_ := Aside0.mk (hbox); have n6_ := Aside0.mk ((by rw [hg]; exact (below_size (bs HB.out)) : w.heap.size ≤ gb461)); have n7_ := n6_; have n8_ := Aside0.mk ((by rw [hg]; exact Nat.ne_of_lt (blk_lt (g := gb427) (o := .cells #[.slice A0_0 l0_0.length c0_0, .slice A0_1 l0_1.length c0_1] 25 (0, 0)) (by (iterate 2 (with_reducible repeat (first | refine blk_drewN ?_ _ | refine blk_drew ?_ | refine blk_alloc ?_ _)); refine blk_far ?_ NB427_460.out _); exact bg BK427.out)) : gb427 ≠ gb461)); have n9_ := Aside0.mk ((by rw [hg]; exact Nat.ne_of_gt (blk_lt (g := gb427) (o := .cells #[.slice A0_0 l0_0.length c0_0, .slice A0_1 l0_1.length c0_1] 25 (0, 0)) (by (iterate 2 (with_reducible repeat (first | refine blk_drewN ?_ _ | refine blk_drew ?_ | refine blk_alloc ?_ _)); refine blk_far ?_ NB427_460.out _); exact bg BK427.out)) : gb461 ≠ gb427)); have n10_ := Aside0.mk ((by rw [hg]; exact Nat.ne_of_lt (blk_lt (g := gb460) (o := .cells #[.slice A0_0 l0_0.length c0_0, .slice Ao120 t449.length co120] 25 (0, 0)) (by exact pt2 (bg BK460.out))) : gb460 ≠ gb461)); have n11_ := Aside0.mk ((by rw [hg]; exact Nat.ne_of_gt (blk_lt (g := gb460) (o := .cells #[.slice A0_0 l0_0.length c0_0, .slice Ao120 t449.length co120] 25 (0, 0)) (by exact pt2 (bg BK460.out))) : gb461 ≠ gb460)); clear HO_10; clear HO_12; clear BK427; clear BK460; clear HB; have HO_10 := n0_; have HO_12 := n1_; have BK427 := n2_; have BK460 := n3_; have HB := n4_; have BK461 := n5_; have GW461 := n6_; have GE461 := n7_; have NB427_461 := n8_; have NB461_427 := n9_; have NB460_461 := n10_; have NB461_460 := n11_; clear n0_ n1_ n2_ n3_ n4_ n5_ n6_ n7_ n8_ n9_ n10_ n11_; clear hb hbox hg; have hnb127 := NB461_427.out; have hnc127 := NB427_461.out; have hnb128 := NB461_460.out; have hnc128 := NB460_461.out; obtain ⟨hcz129_0, hcz129_1⟩ := bc2 BK461.out; obtain ⟨hfz129_0, hfz129_1⟩ := bf2 BK461.out; obtain ⟨hcz130_0, hcz130_1⟩ := bc2 BK460.out; obtain ⟨hfz130_0, hfz130_1⟩ := bf2 BK460.out; obtain ⟨hcz131_0, hcz131_1⟩ := bc2 BK427.out; obtain ⟨hfz131_0, hfz131_1⟩ := bf2 BK427.out) | ((with_reducible refine gate_callee (f := 21) rfl ?_); refine goesL_ (some 99) rfl rfl Try.func21 (by kernel_rfl) rfl #[.agg #[.slice A0_0 l0_0.length c0_0, .slice Ao120 t449.length co120], .agg #[.slice A0_0 l0_0.length c0_0, .slice A0_1 l0_1.length c0_1]] rfl (by (try simp only [List.map_toArray, List.map_cons, List.map_nil]); first | done | rfl | (simp only [List.length_drop, List.length_take]; rfl)) ?_; (with_reducible refine (signalbenchref09_Same.calls kj44 _ _ l0_0 _ _ t449 _ _ l0_0 _ _ l0_1 false _ ?side1 ?side2 ?side3 ?side4 ?side5 ?side6 ?side7 ?side8 A53.out).mono ?_); (case side1 => exact Kd.C_below HR0_0.out (bs HB.out)); (case side2 => exact HC0_0.out); (case side3 => refine (Kd.R_reads' (e := 46) (base := w.heap.size) (ok := fun k_ => some k_ ≠ (.slice Ao125 t456.length co125 : Value).ownBlock) (n := t449.length) (c := co120) ?_).2.2; exact (by (with_reducible repeat (first | apply Kd.R_alloc | apply Kd.R_drewN | apply Kd.R_drew)); exact (Kd.R_mono (Kd.R_far (p := ⟨gb461, 1, none⟩) (Kd.R_far (p := ⟨gb461, 0, none⟩) (Kd.R_types HO_10.out BK461.out (by decide)) (fun _ hk => hk.2) (.slice A0_0 l0_0.length c0_0)) (fun _ hk => hk.2) (.slice Ao125 t456.length co125)) (fun _ h_ => h_.1)))); (case side4 => exact (Kd.R_reads' HO_10.out).2.1); (case side5 => exact Kd.C_below HR0_0.out (bs HB.out)); (case side6 => exact HC0_0.out); (case side7 => exact Kd.C_below HR0_1.out (bs HB.out)); (case side8 => exact HC0_1.out); rintro e w132 ⟨rfl, hb⟩; refine ⟨_, rfl, ?_⟩; have n0_ := Aside0.mk (Kd.R_below (by (with_reducible repeat (first | apply Kd.R_alloc | apply Kd.R_drewN | apply Kd.R_drew)); exact (Kd.R_mono (Kd.R_far (p := ⟨gb461, 1, none⟩) (Kd.R_far (p := ⟨gb461, 0, none⟩) (Kd.R_types HO_10.out BK461.out (by decide)) (fun _ hk => hk.2) (.slice A0_0 l0_0.length c0_0)) (fun _ hk => hk.2) (.slice Ao125 t456.length co125)) (fun _ h_ => h_.1))) hb); have n1_ := Aside0.mk (Kd.R_below (by (with_reducible repeat (first | apply Kd.R_alloc | apply Kd.R_drewN | apply Kd.R_drew)); exact (Kd.R_mono (Kd.R_far (p := ⟨gb461, 1, none⟩) (Kd.R_far (p := ⟨gb461, 0, none⟩) (Kd.R_types HO_12.out BK461.out (by decide)) (fun _ hk => hk.2) (.slice A0_0 l0_0.length c0_0)) (fun _ hk => hk.2) (.slice Ao125 t456.length co125)) (fun _ h_ => h_.1))) hb); have n2_ := Aside0.mk (blk_below (g := gb427) (o := .cells #[.slice A0_0 l0_0.length c0_0, .slice A0_1 l0_1.length c0_1] 25 (0, 0)) (by (iterate 2 (with_reducible repeat (first | refine blk_drewN ?_ _ | refine blk_drew ?_ | refine blk_alloc ?_ _)); refine blk_far ?_ NB427_461.out _); exact bg BK427.out) hb); have n3_ := Aside0.mk (blk_below (g := gb460) (o := .cells #[.slice A0_0 l0_0.length c0_0, .slice Ao120 t449.length co120] 25 (0, 0)) (by (iterate 2 (with_reducible repeat (first | refine blk_drewN ?_ _ | refine blk_drew ?_ | refine blk_alloc ?_ _)); refine blk_far ?_ NB460_461.out _); exact bg BK460.out) hb); have n4_ := Aside0.mk (blk_below (g := gb461) (o := .cells #[.slice A0_0 l0_0.length c0_0, .slice Ao125 t456.length co125] 25 (0, 0)) (by exact pt2 (bg BK461.out)) hb); have n5_ := Aside0.mk (below_step (bs HB.out) hb); clear HO_10; clear HO_12; clear BK427; clear BK460; clear BK461; clear HB; have HO_10 := n0_; have HO_12 := n1_; have BK427 := n2_; have BK460 := n3_; have BK461 := n4_; have HB := n5_; clear n0_ n1_ n2_ n3_ n4_ n5_; (try clear hb); (try clear hb2); (try clear hk); (try clear hi)))
              go_ret
              exact ⟨by first | rfl | (simp [errW_none, errW_some] <;> rfl) | (simp [*, errW_none, errW_some] <;> rfl), bs HB.out⟩

end Go.Proofs.Ytioedeglgljblaa.H
