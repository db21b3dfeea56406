-- Printed by wip/hprint.py (this project's own driver of the kit's print) out of the translation; Lean checks it.
import Derived.Test.YtgdjiphljadlcaaK0
import Derived.Test.YtgdjiphljadlcaaK23
namespace Go.Proofs.Ytgdjiphljadlcaa.K
open Go.RowKit Go.Proofs.YtgdjiphljadlcaaW.PrintWords Go.Proofs.YtgdjiphljadlcaaW.PrintLast Go.Proofs.YtgdjiphljadlcaaW.PrintMore
attribute [local go_sem] max2_int min2_int max_two min_two max_three min_three max_four min_four   -- for this text's walks alone
set_option linter.unusedVariables false
set_option linter.unusedSimpArgs false

/-! ### signalbenchref47_before: function 65 -/
def signalbenchref47_before.l0 : Nat → List (S46) → List Bool → Int → Int → Int → List (S50) → Option (Int)
 | 0, _, _, _, _, _, _ => none
 | k + 1, x1, x2, x3, x4, x11, x392000 => if x11 ≥ 0 then (if 0 ≤ x11 then (if x11 < (x2.length : Int) then (if rdOf false x2 x11 = true then ((signalbenchref47_follows.f k x392000 x1 x3 x11 x4).bind fun t393 => (if t393 = true then (some x11) else (signalbenchref47_before.l0 k x1 x2 x3 x4 (wrap64 (x11 - 1)) x392000))) else (signalbenchref47_before.l0 k x1 x2 x3 x4 (wrap64 (x11 - 1)) x392000)) else (none)) else (none)) else (some (-1))
def signalbenchref47_before.f (k : Nat) (l0_0 : List (S50)) (l1 : List (S46)) (l2 : List Bool) (a3 : Int) (a4 : Int) : Option (Int) := signalbenchref47_before.l0 k l1 l2 a3 a4 (wrap64 (a4 - 1)) l0_0
set_option maxHeartbeats 8000000 in
set_option maxRecDepth 100000 in
theorem signalbenchref47_before.calls (k : Nat) (A0_0 : Option Addr) (c0_0 : Nat) (l0_0 : List (S50)) (A1 : Option Addr) (c1 : Nat) (l1 : List (S46)) (A2 : Option Addr) (c2 : Nat) (l2 : List Bool) (a3 : Int) (a4 : Int) (r : Int) (w : World) (hr0_0 : Kd.C k50 w A0_0 l0_0.length l0_0) (hc0_0 : l0_0.length ≤ c0_0) (hr1 : Kd.C k46 w A1 l1.length l1) (hc1 : l1.length ≤ c1) (hr2 : Kd.C Kd.bool w A2 l2.length l2) (hc2 : l2.length ≤ c2) (h : signalbenchref47_before.f k l0_0 l1 l2 a3 a4 = some r) :
  Calls Try.prog 65 #[.agg #[.slice A0_0 l0_0.length c0_0], .slice A1 l1.length c1, .slice A2 l2.length c2, .int .i64 a3, .int .i64 a4] w fun e w' => e = .returned (.int .i64 r) ∧ Below w.heap.size w w' := by
 have hu31 := Try.underlying31
 have HR0_0 := Aside0.mk hr0_0
 have HC0_0 := Aside0.mk hc0_0
 clear hr0_0 hc0_0
 have HR1 := Aside0.mk hr1
 have HC1 := Aside0.mk hc1
 clear hr1 hc1
 have HR2 := Aside0.mk hr2
 have HC2 := Aside0.mk hc2
 clear hr2 hc2
 have HB := Aside0.mk (Below.refl w.heap.size w)
 have H : (signalbenchref47_before.l0 k l1 l2 a3 a4 (wrap64 (a4 - 1)) l0_0) = some r := h
 clear h
 have H' := Aside0.mk H
 clear H
 go_enter Try.func65, Try.ntmps65
 go_wp2_with (first | ((with_reducible refine gate_dst (N := 5) rfl ?_); refine box_event ?hg (N := 5) ?hd (cs := #[.slice A0_0 l0_0.length c0_0]) (t := 31) ?hr ?_; (case hd => rfl); (case hg => rfl); (case hr => first | (go_simp; done) | (go_simp; rfl)); intro gb391 hg w6 hbox hb; have n0_ := Aside0.mk (below_step (bs HB.out) hb); have n1_ := Aside0.mk (hbox); have n2_ := Aside0.mk ((by rw [hg]; exact (below_size (bs HB.out)) : w.heap.size ≤ gb391)); have n3_ := n2_; clear HB; have HB := n0_; have BK391 := n1_; have GW391 := n2_; have GE391 := n3_; clear n0_ n1_ n2_ n3_; clear hb hbox hg))
 go_loopg [11] k (fun kq v11 w' => ∃ (x11_1 : Int), v11 = .int .i64 x11_1 ∧ Aside0 (signalbenchref47_before.l0 kq l1 l2 a3 a4 x11_1 l0_0 = some r) ∧ Aside0 (kq ≤ k) ∧ Aside0 (w'.heap[gb391]? = some (.cells #[(.slice A0_0 l0_0.length c0_0)] 31 (0, 0))) ∧ Aside0 (Below w.heap.size w w'))
 case atStart => exact ⟨(wrap64 (a4 - 1)), (by first | rfl | (simp; done) | (simp [*]; done)), H', ⟨Nat.le_refl _⟩, ⟨bg BK391.out⟩, ⟨bs HB.out⟩⟩
 case round =>
  clear H'
  try clear c1
  try clear c2
  try clear p2
  try clear c6
  try clear p6
  obtain ⟨x11_1, rfl, HA, HK1, BK391, HB⟩ := hrel
  cases gk with
  | zero => exact absurd HA.out (by simp [signalbenchref47_before.l0])
  | succ k1 =>
   have H := HA.out
   clear HA
   simp only [signalbenchref47_before.l0] at H
   by_cases c7 : x11_1 ≥ 0
   ·
    rw [if_pos c7] at H
    have c7b0 : decide (0 ≤ x11_1) = true := decide_eq_true c7
    clear c7
    by_cases c8 : 0 ≤ x11_1
    ·
     rw [if_pos c8] at H
     have c8b0 : decide (0 ≤ x11_1) = true := decide_eq_true c8
     clear c8
     by_cases c9 : x11_1 < (l2.length : Int)
     ·
      rw [if_pos c9] at H
      have c9b0 : decide (x11_1 < (l2.length : Int)) = true := decide_eq_true c9
      clear c9
      obtain ⟨bq10, hbq10⟩ : ∃ b_ : Bool, b_ = (rdOf false l2 x11_1) := ⟨_, rfl⟩
      replace H : (if bq10 = true then ((signalbenchref47_follows.f k1 l0_0 l1 a3 x11_1 a4).bind fun t393 => (if t393 = true then (some x11_1) else (signalbenchref47_before.l0 k1 l1 l2 a3 a4 (wrap64 (x11_1 - 1)) l0_0))) else (signalbenchref47_before.l0 k1 l1 l2 a3 a4 (wrap64 (x11_1 - 1)) l0_0)) = some r := by rw [← hbq10] at H; exact H
      have Nbq10 := Aside0.mk hbq10
      clear hbq10
      by_cases c11 : bq10 = true
      ·
       subst c11
       (try rw [← Nbq10.out] at BK391)
       have H1 : ((signalbenchref47_follows.f k1 l0_0 l1 a3 x11_1 a4).bind fun t393 => (if t393 = true then (some x11_1) else (signalbenchref47_before.l0 k1 l1 l2 a3 a4 (wrap64 (x11_1 - 1)) l0_0))) = some r := by rw [if_pos rfl] at H; exact H
       clear H
       have H := H1
       clear H1
       replace H := Option.bind_eq_some_iff.mp H
       obtain ⟨t393, A120, H⟩ := H
       replace H : (if t393 = true then (some x11_1) else (signalbenchref47_before.l0 k1 l1 l2 a3 a4 (wrap64 (x11_1 - 1)) l0_0)) = some r := H
       have A12 := Aside0.mk A120
       clear A120
       by_cases c13 : t393 = true
       ·
        subst c13
        have H1 : (some x11_1) = some r := by rw [if_pos rfl] at H; exact H
        clear H
        have H := H1
        clear H1
        obtain rfl := Option.some.inj H
        have p392 : 0 ≤ (x11_1 : Int) := of_decide_eq_true (by first | (with_reducible assumption) | assumption)
        have q392 : x11_1 < (l2.length : Int) := of_decide_eq_true (by first | (with_reducible assumption) | assumption)
        obtain ⟨ad392, e392, hx392_0⟩ := Kd.at_bool HR2.out x11_1 p392 q392
        (try rw [← Nbq10.out] at hx392_0)
        cases e392
        replace hx392_0 := pw_cell_below HB.out hx392_0
        replace p392 := eq_true p392
        replace q392 := eq_true q392
        have hcz14_0 : wr.cell? ⟨gb391, 0, none⟩ = some (.slice A0_0 l0_0.length c0_0) := (blk_cell BK391.out 0).trans rfl
        have hfz14_0 := blk_frozen BK391.out 0
        go_wp2_with (first | (go_at_call 60; (with_reducible refine (signalbenchref47_follows.calls k1 _ _ l0_0 _ _ l1 a3 x11_1 a4 true _ ?side1 ?side2 ?side3 ?side4 A12.out).mono ?_); (case side1 => repeat (first | exact (Kd.C_below HR0_0.out HB.out) | (with_reducible refine Kd.C_alloc ?_ _) | (with_reducible refine Kd.C_drewN ?_ _) | (with_reducible refine Kd.C_drew ?_))); (case side2 => exact HC0_0.out); (case side3 => repeat (first | exact (Kd.C_below HR1.out HB.out) | (with_reducible refine Kd.C_alloc ?_ _) | (with_reducible refine Kd.C_drewN ?_ _) | (with_reducible refine Kd.C_drew ?_))); (case side4 => exact HC1.out); rintro e w15 ⟨rfl, hb⟩; have n0_ := Aside0.mk (blk_below (bg BK391.out) hb); have n1_ := Aside0.mk (below_step (bs HB.out) hb); clear BK391; clear HB; have BK391 := n0_; have HB := n1_; clear n0_ n1_; (try clear hb); (try clear hb2); (try clear hk); (try clear hi)))
        go_ret
        exact ⟨by first | rfl | (simp [errW_none, errW_some] <;> rfl) | (simp [*, errW_none, errW_some] <;> rfl), bs HB.out⟩
       ·
        replace c13 := Bool.eq_false_iff.mpr c13
        subst c13
        have H1 : (signalbenchref47_before.l0 k1 l1 l2 a3 a4 (wrap64 (x11_1 - 1)) l0_0) = some r := by rw [if_neg (show ¬ (false = true) by decide)] at H; exact H
        clear H
        have H := H1
        clear H1
        have H' := Aside0.mk H
        clear H
        have p392 : 0 ≤ (x11_1 : Int) := of_decide_eq_true (by first | (with_reducible assumption) | assumption)
        have q392 : x11_1 < (l2.length : Int) := of_decide_eq_true (by first | (with_reducible assumption) | assumption)
        obtain ⟨ad392, e392, hx392_0⟩ := Kd.at_bool HR2.out x11_1 p392 q392
        (try rw [← Nbq10.out] at hx392_0)
        cases e392
        replace hx392_0 := pw_cell_below HB.out hx392_0
        replace p392 := eq_true p392
        replace q392 := eq_true q392
        have hcz16_0 : wr.cell? ⟨gb391, 0, none⟩ = some (.slice A0_0 l0_0.length c0_0) := (blk_cell BK391.out 0).trans rfl
        have hfz16_0 := blk_frozen BK391.out 0
        go_wp2_with (first | (go_at_call 60; (with_reducible refine (signalbenchref47_follows.calls k1 _ _ l0_0 _ _ l1 a3 x11_1 a4 false _ ?side1 ?side2 ?side3 ?side4 A12.out).mono ?_); (case side1 => repeat (first | exact (Kd.C_below HR0_0.out HB.out) | (with_reducible refine Kd.C_alloc ?_ _) | (with_reducible refine Kd.C_drewN ?_ _) | (with_reducible refine Kd.C_drew ?_))); (case side2 => exact HC0_0.out); (case side3 => repeat (first | exact (Kd.C_below HR1.out HB.out) | (with_reducible refine Kd.C_alloc ?_ _) | (with_reducible refine Kd.C_drewN ?_ _) | (with_reducible refine Kd.C_drew ?_))); (case side4 => exact HC1.out); rintro e w17 ⟨rfl, hb⟩; have n0_ := Aside0.mk (blk_below (bg BK391.out) hb); have n1_ := Aside0.mk (below_step (bs HB.out) hb); clear BK391; clear HB; have BK391 := n0_; have HB := n1_; clear n0_ n1_; (try clear hb); (try clear hb2); (try clear hk); (try clear hi)))
        go_roundg k1
        case measure => have := HK1.out; omega
        case rel => (try rw [Nbq10.out] at H'); (try rw [Nbq10.out] at BK391); exact ⟨(wrap64 (x11_1 - 1)), (by first | rfl | (simp; done) | (simp [*]; done)), H', ⟨by have := HK1.out; omega⟩, ⟨bg BK391.out⟩, ⟨bs HB.out⟩⟩
      ·
       replace c11 := Bool.eq_false_iff.mpr c11
       subst c11
       have H1 : (signalbenchref47_before.l0 k1 l1 l2 a3 a4 (wrap64 (x11_1 - 1)) l0_0) = some r := by rw [if_neg (show ¬ (false = true) by decide)] at H; exact H
       clear H
       have H := H1
       clear H1
       have H' := Aside0.mk H
       clear H
       have p392 : 0 ≤ (x11_1 : Int) := of_decide_eq_true (by first | (with_reducible assumption) | assumption)
       have q392 : x11_1 < (l2.length : Int) := of_decide_eq_true (by first | (with_reducible assumption) | assumption)
       obtain ⟨ad392, e392, hx392_0⟩ := Kd.at_bool HR2.out x11_1 p392 q392
       (try rw [← Nbq10.out] at hx392_0)
       cases e392
       replace hx392_0 := pw_cell_below HB.out hx392_0
       replace p392 := eq_true p392
       replace q392 := eq_true q392
       go_wp2
       go_roundg k1
       case measure => have := HK1.out; omega
       case rel => (try rw [Nbq10.out] at H'); exact ⟨(wrap64 (x11_1 - 1)), (by first | rfl | (simp; done) | (simp [*]; done)), H', ⟨by have := HK1.out; omega⟩, ⟨bg BK391.out⟩, ⟨bs HB.out⟩⟩
     ·
      rw [if_neg c9] at H
      exact absurd H (by simp)
    ·
     rw [if_neg c8] at H
     exact absurd H (by simp)
   ·
    rw [if_neg c7] at H
    have c7b0 : decide (0 ≤ x11_1) = false := decide_eq_false c7
    clear c7
    obtain rfl := Option.some.inj H
    go_wp2
    go_ret
    exact ⟨by first | rfl | (simp [errW_none, errW_some] <;> rfl) | (simp [*, errW_none, errW_some] <;> rfl), bs HB.out⟩

end Go.Proofs.Ytgdjiphljadlcaa.K
