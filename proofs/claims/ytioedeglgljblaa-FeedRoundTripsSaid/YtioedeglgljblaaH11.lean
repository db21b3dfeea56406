-- Printed by wip/hprint.py (this project's own driver of the kit's print) out of the translation; Lean checks it.
import Derived.Test.YtioedeglgljblaaH0
namespace Go.Proofs.Ytioedeglgljblaa.H
open Go.RowKit Go.Proofs.YtioedeglgljblaaW.PrintWords Go.Proofs.YtioedeglgljblaaW.PrintLast Go.Proofs.YtioedeglgljblaaW.PrintMore
attribute [local go_sem] max2_int min2_int max_two min_two max_three min_three max_four min_four   -- for this text's walks alone
set_option linter.unusedVariables false
set_option linter.unusedSimpArgs false

/-! ### signalbenchref09_runs: function 41 -/
def signalbenchref09_runs.l0 : Nat → List (S46) → Int → Int → Int → Option (Bool)
 | 0, _, _, _, _ => none
 | k + 1, x0, x1, x5, x6 => if x6 < (x0.length : Int) then (if 0 ≤ x6 then (if ((rd_T46 x0 x6).f0) < 0 then (some false) else (if ((rd_T46 x0 x6).f0) > x1 then (some false) else (if ((rd_T46 x0 x6).f1) < 1 then (some false) else (if ((rd_T46 x0 x6).f1) > x5 then (some false) else (signalbenchref09_runs.l0 k x0 x1 (wrap64 (x5 - ((rd_T46 x0 x6).f1))) (wrap64 (x6 + 1))))))) else (none)) else (some true)
def signalbenchref09_runs.f (k : Nat) (l0 : List (S46)) (a1 : Int) : Option (Bool) := signalbenchref09_runs.l0 k l0 a1 1099511627776 0
set_option maxHeartbeats 8000000 in
set_option maxRecDepth 100000 in
theorem signalbenchref09_runs.calls (k : Nat) (A0 : Option Addr) (c0 : Nat) (l0 : List (S46)) (a1 : Int) (r : Bool) (w : World) (hr0 : Kd.C k46 w A0 l0.length l0) (hc0 : l0.length ≤ c0) (h : signalbenchref09_runs.f k l0 a1 = some r) :
  Calls Try.prog 41 #[.slice A0 l0.length c0, .int .i64 a1] w fun e w' => e = .returned (.bool r) ∧ Drawn0 w w' := by
 have HR0 := Aside0.mk hr0
 have HC0 := Aside0.mk hc0
 clear hr0 hc0
 have H : (signalbenchref09_runs.l0 k l0 a1 1099511627776 0) = some r := h
 clear h
 have H' := Aside0.mk H
 clear H
 go_enter Try.func41, Try.ntmps41
 go_wp2
 go_loopg [5, 6] k (fun kq v5 v6 w' => ∃ (x5_1 : Int) (x6_1 : Int), v5 = .int .i64 x5_1 ∧ v6 = .int .i64 x6_1 ∧ Aside0 (signalbenchref09_runs.l0 kq l0 a1 x5_1 x6_1 = some r) ∧ Aside0 (kq ≤ k) ∧ Drawn0 w w')
 case atStart => exact ⟨(1099511627776), (0), (by first | rfl | (simp; done) | (simp [*]; done)), (by first | rfl | (simp; done) | (simp [*]; done)), H', ⟨Nat.le_refl _⟩, by repeat (first | exact Drawn0.refl _ | apply Drawn0.step)⟩
 case round =>
  clear H'
  try clear p2
  obtain ⟨x5_1, x6_1, rfl, rfl, HA, HK1, ⟨m1, rfl⟩⟩ := hrel
  cases gk with
  | zero => exact absurd HA.out (by simp [signalbenchref09_runs.l0])
  | succ k1 =>
   have H := HA.out
   clear HA
   simp only [signalbenchref09_runs.l0] at H
   by_cases c3 : x6_1 < (l0.length : Int)
   ·
    rw [if_pos c3] at H
    have c3b0 : decide (x6_1 < (l0.length : Int)) = true := decide_eq_true c3
    clear c3
    by_cases c4 : 0 ≤ x6_1
    ·
     rw [if_pos c4] at H
     have c4b0 : decide (0 ≤ x6_1) = true := decide_eq_true c4
     clear c4
     by_cases c5 : ((rd_T46 l0 x6_1).f0) < 0
     ·
      rw [if_pos c5] at H
      have c5b0 : decide (((rd_T46 l0 x6_1).f0) < 0) = true := decide_eq_true c5
      clear c5
      obtain rfl := Option.some.inj H
      have p140 : 0 ≤ (x6_1 : Int) := of_decide_eq_true (by first | (with_reducible assumption) | assumption)
      have q140 : x6_1 < (l0.length : Int) := of_decide_eq_true (by first | (with_reducible assumption) | assumption)
      obtain ⟨ad140, e140, hx140_0, hx140_1⟩ := at_T46 HR0.out x6_1 p140 q140
      cases e140
      replace p140 := eq_true p140
      replace q140 := eq_true q140
      go_wp2
      go_ret
      exact ⟨by first | rfl | (simp; done) | (simp [*]; done), by repeat (first | exact Drawn0.refl _ | apply Drawn0.step)⟩
     ·
      rw [if_neg c5] at H
      have c5b0 : decide (((rd_T46 l0 x6_1).f0) < 0) = false := decide_eq_false c5
      clear c5
      by_cases c6 : ((rd_T46 l0 x6_1).f0) > a1
      ·
       rw [if_pos c6] at H
       have c6b0 : decide (a1 < ((rd_T46 l0 x6_1).f0)) = true := decide_eq_true c6
       clear c6
       obtain rfl := Option.some.inj H
       have p140 : 0 ≤ (x6_1 : Int) := of_decide_eq_true (by first | (with_reducible assumption) | assumption)
       have q140 : x6_1 < (l0.length : Int) := of_decide_eq_true (by first | (with_reducible assumption) | assumption)
       obtain ⟨ad140, e140, hx140_0, hx140_1⟩ := at_T46 HR0.out x6_1 p140 q140
       cases e140
       replace p140 := eq_true p140
       replace q140 := eq_true q140
       have p141 : 0 ≤ (x6_1 : Int) := of_decide_eq_true (by first | (with_reducible assumption) | assumption)
       have q141 : x6_1 < (l0.length : Int) := of_decide_eq_true (by first | (with_reducible assumption) | assumption)
       obtain ⟨ad141, e141, hx141_0, hx141_1⟩ := at_T46 HR0.out x6_1 p141 q141
       obtain rfl : ad140 = ad141 := (by injection e141)
       replace p141 := eq_true p141
       replace q141 := eq_true q141
       go_wp2
       go_ret
       exact ⟨by first | rfl | (simp; done) | (simp [*]; done), by repeat (first | exact Drawn0.refl _ | apply Drawn0.step)⟩
      ·
       rw [if_neg c6] at H
       have c6b0 : decide (a1 < ((rd_T46 l0 x6_1).f0)) = false := decide_eq_false c6
       clear c6
       by_cases c7 : ((rd_T46 l0 x6_1).f1) < 1
       ·
        rw [if_pos c7] at H
        have c7b0 : decide (((rd_T46 l0 x6_1).f1) < 1) = true := decide_eq_true c7
        clear c7
        obtain rfl := Option.some.inj H
        have p140 : 0 ≤ (x6_1 : Int) := of_decide_eq_true (by first | (with_reducible assumption) | assumption)
        have q140 : x6_1 < (l0.length : Int) := of_decide_eq_true (by first | (with_reducible assumption) | assumption)
        obtain ⟨ad140, e140, hx140_0, hx140_1⟩ := at_T46 HR0.out x6_1 p140 q140
        cases e140
        replace p140 := eq_true p140
        replace q140 := eq_true q140
        have p141 : 0 ≤ (x6_1 : Int) := of_decide_eq_true (by first | (with_reducible assumption) | assumption)
        have q141 : x6_1 < (l0.length : Int) := of_decide_eq_true (by first | (with_reducible assumption) | assumption)
        obtain ⟨ad141, e141, hx141_0, hx141_1⟩ := at_T46 HR0.out x6_1 p141 q141
        obtain rfl : ad140 = ad141 := (by injection e141)
        replace p141 := eq_true p141
        replace q141 := eq_true q141
        have p142 : 0 ≤ (x6_1 : Int) := of_decide_eq_true (by first | (with_reducible assumption) | assumption)
        have q142 : x6_1 < (l0.length : Int) := of_decide_eq_true (by first | (with_reducible assumption) | assumption)
        obtain ⟨ad142, e142, hx142_0, hx142_1⟩ := at_T46 HR0.out x6_1 p142 q142
        obtain rfl : ad140 = ad142 := (by injection e142)
        replace p142 := eq_true p142
        replace q142 := eq_true q142
        go_wp2
        go_ret
        exact ⟨by first | rfl | (simp; done) | (simp [*]; done), by repeat (first | exact Drawn0.refl _ | apply Drawn0.step)⟩
       ·
        rw [if_neg c7] at H
        have c7b0 : decide (((rd_T46 l0 x6_1).f1) < 1) = false := decide_eq_false c7
        clear c7
        by_cases c8 : ((rd_T46 l0 x6_1).f1) > x5_1
        ·
         rw [if_pos c8] at H
         have c8b0 : decide (x5_1 < ((rd_T46 l0 x6_1).f1)) = true := decide_eq_true c8
         clear c8
         obtain rfl := Option.some.inj H
         have p140 : 0 ≤ (x6_1 : Int) := of_decide_eq_true (by first | (with_reducible assumption) | assumption)
         have q140 : x6_1 < (l0.length : Int) := of_decide_eq_true (by first | (with_reducible assumption) | assumption)
         obtain ⟨ad140, e140, hx140_0, hx140_1⟩ := at_T46 HR0.out x6_1 p140 q140
         cases e140
         replace p140 := eq_true p140
         replace q140 := eq_true q140
         have p141 : 0 ≤ (x6_1 : Int) := of_decide_eq_true (by first | (with_reducible assumption) | assumption)
         have q141 : x6_1 < (l0.length : Int) := of_decide_eq_true (by first | (with_reducible assumption) | assumption)
         obtain ⟨ad141, e141, hx141_0, hx141_1⟩ := at_T46 HR0.out x6_1 p141 q141
         obtain rfl : ad140 = ad141 := (by injection e141)
         replace p141 := eq_true p141
         replace q141 := eq_true q141
         have p142 : 0 ≤ (x6_1 : Int) := of_decide_eq_true (by first | (with_reducible assumption) | assumption)
         have q142 : x6_1 < (l0.length : Int) := of_decide_eq_true (by first | (with_reducible assumption) | assumption)
         obtain ⟨ad142, e142, hx142_0, hx142_1⟩ := at_T46 HR0.out x6_1 p142 q142
         obtain rfl : ad140 = ad142 := (by injection e142)
         replace p142 := eq_true p142
         replace q142 := eq_true q142
         have p143 : 0 ≤ (x6_1 : Int) := of_decide_eq_true (by first | (with_reducible assumption) | assumption)
         have q143 : x6_1 < (l0.length : Int) := of_decide_eq_true (by first | (with_reducible assumption) | assumption)
         obtain ⟨ad143, e143, hx143_0, hx143_1⟩ := at_T46 HR0.out x6_1 p143 q143
         obtain rfl : ad140 = ad143 := (by injection e143)
         replace p143 := eq_true p143
         replace q143 := eq_true q143
         go_wp2
         go_ret
         exact ⟨by first | rfl | (simp; done) | (simp [*]; done), by repeat (first | exact Drawn0.refl _ | apply Drawn0.step)⟩
        ·
         rw [if_neg c8] at H
         have c8b0 : decide (x5_1 < ((rd_T46 l0 x6_1).f1)) = false := decide_eq_false c8
         clear c8
         have H' := Aside0.mk H
         clear H
         have p140 : 0 ≤ (x6_1 : Int) := of_decide_eq_true (by first | (with_reducible assumption) | assumption)
         have q140 : x6_1 < (l0.length : Int) := of_decide_eq_true (by first | (with_reducible assumption) | assumption)
         obtain ⟨ad140, e140, hx140_0, hx140_1⟩ := at_T46 HR0.out x6_1 p140 q140
         cases e140
         replace p140 := eq_true p140
         replace q140 := eq_true q140
         have p141 : 0 ≤ (x6_1 : Int) := of_decide_eq_true (by first | (with_reducible assumption) | assumption)
         have q141 : x6_1 < (l0.length : Int) := of_decide_eq_true (by first | (with_reducible assumption) | assumption)
         obtain ⟨ad141, e141, hx141_0, hx141_1⟩ := at_T46 HR0.out x6_1 p141 q141
         obtain rfl : ad140 = ad141 := (by injection e141)
         replace p141 := eq_true p141
         replace q141 := eq_true q141
         have p142 : 0 ≤ (x6_1 : Int) := of_decide_eq_true (by first | (with_reducible assumption) | assumption)
         have q142 : x6_1 < (l0.length : Int) := of_decide_eq_true (by first | (with_reducible assumption) | assumption)
         obtain ⟨ad142, e142, hx142_0, hx142_1⟩ := at_T46 HR0.out x6_1 p142 q142
         obtain rfl : ad140 = ad142 := (by injection e142)
         replace p142 := eq_true p142
         replace q142 := eq_true q142
         have p143 : 0 ≤ (x6_1 : Int) := of_decide_eq_true (by first | (with_reducible assumption) | assumption)
         have q143 : x6_1 < (l0.length : Int) := of_decide_eq_true (by first | (with_reducible assumption) | assumption)
         obtain ⟨ad143, e143, hx143_0, hx143_1⟩ := at_T46 HR0.out x6_1 p143 q143
         obtain rfl : ad140 = ad143 := (by injection e143)
         replace p143 := eq_true p143
         replace q143 := eq_true q143
         have p144 : 0 ≤ (x6_1 : Int) := of_decide_eq_true (by first | (with_reducible assumption) | assumption)
         have q144 : x6_1 < (l0.length : Int) := of_decide_eq_true (by first | (with_reducible assumption) | assumption)
         obtain ⟨ad144, e144, hx144_0, hx144_1⟩ := at_T46 HR0.out x6_1 p144 q144
         obtain rfl : ad140 = ad144 := (by injection e144)
         replace p144 := eq_true p144
         replace q144 := eq_true q144
         go_wp2
         go_roundg k1
         case measure => have := HK1.out; omega
         case rel => exact ⟨(wrap64 (x5_1 - ((rd_T46 l0 x6_1).f1))), (wrap64 (x6_1 + 1)), (by first | rfl | (simp; done) | (simp [*]; done)), (by first | rfl | (simp; done) | (simp [*]; done)), H', ⟨by have := HK1.out; omega⟩, by repeat (first | exact Drawn0.refl _ | apply Drawn0.step)⟩
    ·
     rw [if_neg c4] at H
     exact absurd H (by simp)
   ·
    rw [if_neg c3] at H
    have c3b0 : decide (x6_1 < (l0.length : Int)) = false := decide_eq_false c3
    clear c3
    obtain rfl := Option.some.inj H
    go_wp2
    go_ret
    exact ⟨by first | rfl | (simp; done) | (simp [*]; done), by repeat (first | exact Drawn0.refl _ | apply Drawn0.step)⟩

end Go.Proofs.Ytioedeglgljblaa.H
