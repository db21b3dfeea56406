-- Printed by wip/hprint.py (this project's own driver of the kit's print) out of the translation; Lean checks it.
import Derived.Test.YtioedeglgljblaaH0
import Derived.Test.YtioedeglgljblaaH19
namespace Go.Proofs.Ytioedeglgljblaa.H
open Go.RowKit Go.Proofs.YtioedeglgljblaaW.PrintWords Go.Proofs.YtioedeglgljblaaW.PrintLast Go.Proofs.YtioedeglgljblaaW.PrintMore
attribute [local go_sem] max2_int min2_int max_two min_two max_three min_three max_four min_four   -- for this text's walks alone
set_option linter.unusedVariables false
set_option linter.unusedSimpArgs false

/-! ### signalbenchref14_Merge: function 14 -/
def signalbenchref14_Merge.l0 : Nat → List (S48) → List (S48) → Int → Option ((List (S48)))
 | 0, _, _, _ => none
 | k + 1, x0, x3, x4 => if x4 < (x0.length : Int) then (if x4 > 0 then (if 0 ≤ (wrap64 (x4 - 1)) then (if (wrap64 (x4 - 1)) < (x0.length : Int) then ((signalbenchref14_Plain.f ((rd_T48 x0 (wrap64 (x4 - 1))).f0) ((rd_T48 x0 (wrap64 (x4 - 1))).f1) ((rd_T48 x0 (wrap64 (x4 - 1))).f2) ((rd_T48 x0 (wrap64 (x4 - 1))).f3) ((rd_T48 x0 (wrap64 (x4 - 1))).f4) ((rd_T48 x0 (wrap64 (x4 - 1))).f5) ((rd_T48 x0 (wrap64 (x4 - 1))).f6)).bind fun t306 => (if t306 = true then (if 0 ≤ x4 then ((signalbenchref14_Plain.f ((rd_T48 x0 x4).f0) ((rd_T48 x0 x4).f1) ((rd_T48 x0 x4).f2) ((rd_T48 x0 x4).f3) ((rd_T48 x0 x4).f4) ((rd_T48 x0 x4).f5) ((rd_T48 x0 x4).f6)).bind fun t308 => (if t308 = true then (if ((rd_T48 x0 (wrap64 (x4 - 1))).f3) = ((rd_T48 x0 x4).f3) then (if ((rd_T48 x0 (wrap64 (x4 - 1))).f2) = ((rd_T48 x0 x4).f1) then (if 0 ≤ (wrap64 ((x3.length : Int) - 1)) then (if (wrap64 ((x3.length : Int) - 1)) < (x3.length : Int) then (signalbenchref14_Merge.l0 k x0 (x3.set ((wrap64 ((x3.length : Int) - 1)) : Int).toNat (⟨(rd_T48 x3 (wrap64 ((x3.length : Int) - 1))).f0, (rd_T48 x3 (wrap64 ((x3.length : Int) - 1))).f1, (rd_T48 x0 x4).f2, (rd_T48 x3 (wrap64 ((x3.length : Int) - 1))).f3, (rd_T48 x3 (wrap64 ((x3.length : Int) - 1))).f4, (rd_T48 x3 (wrap64 ((x3.length : Int) - 1))).f5, (rd_T48 x3 (wrap64 ((x3.length : Int) - 1))).f6⟩ : S48)) (wrap64 (x4 + 1))) else (none)) else (none)) else (if x3.length < 2199023255552 then (signalbenchref14_Merge.l0 k x0 (x3 ++ [(⟨(rd_T48 x0 x4).f0, (rd_T48 x0 x4).f1, (rd_T48 x0 x4).f2, (rd_T48 x0 x4).f3, (rd_T48 x0 x4).f4, (rd_T48 x0 x4).f5, (rd_T48 x0 x4).f6⟩ : S48)]) (wrap64 (x4 + 1))) else (none))) else (if x3.length < 2199023255552 then (signalbenchref14_Merge.l0 k x0 (x3 ++ [(⟨(rd_T48 x0 x4).f0, (rd_T48 x0 x4).f1, (rd_T48 x0 x4).f2, (rd_T48 x0 x4).f3, (rd_T48 x0 x4).f4, (rd_T48 x0 x4).f5, (rd_T48 x0 x4).f6⟩ : S48)]) (wrap64 (x4 + 1))) else (none))) else (if x3.length < 2199023255552 then (signalbenchref14_Merge.l0 k x0 (x3 ++ [(⟨(rd_T48 x0 x4).f0, (rd_T48 x0 x4).f1, (rd_T48 x0 x4).f2, (rd_T48 x0 x4).f3, (rd_T48 x0 x4).f4, (rd_T48 x0 x4).f5, (rd_T48 x0 x4).f6⟩ : S48)]) (wrap64 (x4 + 1))) else (none)))) else (none)) else (if 0 ≤ x4 then (if x3.length < 2199023255552 then (signalbenchref14_Merge.l0 k x0 (x3 ++ [(⟨(rd_T48 x0 x4).f0, (rd_T48 x0 x4).f1, (rd_T48 x0 x4).f2, (rd_T48 x0 x4).f3, (rd_T48 x0 x4).f4, (rd_T48 x0 x4).f5, (rd_T48 x0 x4).f6⟩ : S48)]) (wrap64 (x4 + 1))) else (none)) else (none)))) else (none)) else (none)) else (if 0 ≤ x4 then (if x3.length < 2199023255552 then (signalbenchref14_Merge.l0 k x0 (x3 ++ [(⟨(rd_T48 x0 x4).f0, (rd_T48 x0 x4).f1, (rd_T48 x0 x4).f2, (rd_T48 x0 x4).f3, (rd_T48 x0 x4).f4, (rd_T48 x0 x4).f5, (rd_T48 x0 x4).f6⟩ : S48)]) (wrap64 (x4 + 1))) else (none)) else (none))) else (some x3)
def signalbenchref14_Merge.f (k : Nat) (l0 : List (S48)) : Option ((List (S48))) := if 0 ≤ (l0.length : Int) then (if ((l0.length : Int) : Int).toNat ≤ 4398046511104 then (signalbenchref14_Merge.l0 k l0 (([] : List (S48))) 0) else (none)) else (none)
def signalbenchref14_Merge.T5 : Bool × List (List Nat × List Nat) := (true, [([], []), ([0], [0]), ([1], [1]), ([2], [2]), ([2], [2]), ([4, 2], [2, 4]), ([3, 5, 2], [2, 3, 5]), ([6, 2], [2, 6]), ([7, 2, 2], [2, 7]), ([2, 8], [2, 8]), ([9, 8], [9]), ([10], [10]), ([10], [10]), ([11, 12, 10], [10, 11, 12]), ([13, 10], [10, 13]), ([14, 10, 10], [10, 14]), ([10, 15], [10, 15]), ([16, 15], [16]), ([17], [17]), ([17], [17]), ([19, 17], [17, 19]), ([18, 20, 17], [17, 18, 20]), ([21, 17], [17, 21]), ([22, 17], [17, 22]), ([17], [17]), ([17], [17]), ([24, 25, 17], [17, 24, 25]), ([26, 17], [17, 26]), ([27, 17], [17, 27]), ([23, 28, 17], [17, 23, 28]), ([17, 29], [17, 29]), ([30, 17], [30]), ([31], [31]), ([31], [31]), ([33, 31], [31, 33]), ([32, 34, 31], [31, 32, 34]), ([35, 31], [31, 35]), ([36, 31], [31, 36]), ([31], [31]), ([31], [31]), ([38, 39, 31], [31, 38, 39]), ([40, 31], [31, 40]), ([41, 31], [31, 41]), ([37, 42, 31], [31, 37, 42]), ([31, 43], [31, 43])])
def signalbenchref14_Merge.B5 : List Nat := [0, 1, 3, 7, 7, 23, 63, 127, 255, 511, 1023, 2047, 2047, 8191, 16383, 32767, 65535, 131071, 262143, 262143, 786431, 2097151, 4194303, 8388607, 262143, 262143, 50593791, 117702655, 251920383, 536870911, 1073741823, 2147483647, 4294967295, 4294967295, 12884901887, 34359738367, 68719476735, 137438953471, 4294967295, 4294967295, 828928688127, 1928440315903, 4127463571455, 8796093022207, 17592186044415]
theorem signalbenchref14_Merge.tab5 : rtab .any (opsOf Try.f14 5) = signalbenchref14_Merge.T5 := by kernel_rfl
theorem signalbenchref14_Merge.bits5 : waitsOk signalbenchref14_Merge.T5.2 signalbenchref14_Merge.B5 = true := by kernel_rfl
set_option maxHeartbeats 8000000 in
set_option maxRecDepth 100000 in
theorem signalbenchref14_Merge.calls (k : Nat) (A0 : Option Addr) (c0 : Nat) (l0 : List (S48)) (r : List (S48)) (w : World) (hr0 : Kd.C k48 w A0 l0.length l0) (hc0 : l0.length ≤ c0) (h : signalbenchref14_Merge.f k l0 = some r) :
  Calls Try.prog 14 #[.slice A0 l0.length c0] w fun e w' => ∃ v0_ : Value, e = .returned (v0_) ∧ Kd.R k48 48 w' w.heap.size (fun _ => True) v0_ r ∧ Below w.heap.size w w' := by
 have hu48 := Try.underlying48
 have HR0 := Aside0.mk hr0
 have HC0 := Aside0.mk hc0
 clear hr0 hc0
 have HB := Aside0.mk (Below.refl w.heap.size w)
 have H : (if 0 ≤ (l0.length : Int) then (if ((l0.length : Int) : Int).toNat ≤ 4398046511104 then (signalbenchref14_Merge.l0 k l0 (([] : List (S48))) 0) else (none)) else (none)) = some r := h
 clear h
 by_cases c2 : 0 ≤ (l0.length : Int)
 ·
  rw [if_pos c2] at H
  have c2b0 := eq_true c2
  have c2b1 : decide (0 ≤ (l0.length : Int)) = true := decide_eq_true c2
  clear c2
  by_cases c3 : ((l0.length : Int) : Int).toNat ≤ 4398046511104
  ·
   rw [if_pos c3] at H
   have c3b0 := eq_true c3
   have c3b1 : decide (((l0.length : Int) : Int).toNat ≤ 4398046511104) = true := decide_eq_true c3
   clear c3
   obtain ⟨y302, hy302⟩ : ∃ y_ : List (S48), y_ = (([] : List (S48))) := ⟨_, rfl⟩
   replace H : (signalbenchref14_Merge.l0 k l0 y302 0) = some r := by first | (rw [hy302]; with_reducible exact H) | (have H2_ := (Option.bind_some _ _).symm.trans H; rw [hy302]; with_reducible exact H2_) | (have H2_ := (Option.bind_some _ _).symm.trans H; with_reducible exact H2_) | with_reducible exact H | (rw [hy302]; exact H) | exact H
   have Ny302 := Aside0.mk hy302
   clear hy302
   have H' := Aside0.mk H
   clear H
   go_enter Try.func14, Try.ntmps14
   go_wp2_with (first | ((with_reducible refine gate_dst (N := 7) rfl ?_); refine Kd.R_make0 k48 _ 48 rfl (N := 7) rfl 26 _ _ rfl (l0.length : Int) rfl rfl Try.underlying26 (.agg #[(.int .i64 0), (.int .i64 0), (.int .i64 0), (.int .i64 0), (.int .i64 0), (.string ⟨#[]⟩), (.int .i64 0)]) 64 info48 rfl (by decide) (by omega) z48 (ok := fun _ => True) (okp := fun _ => True) (k48_mkM _ _ _ z48 ) (fun _ hk => hk) trivial (of_decide_eq_true (by first | (with_reducible assumption) | assumption)) (Nat.le_trans (Nat.mul_le_mul_right _ (of_decide_eq_true (by first | (with_reducible assumption) | assumption) : (l0.length : Int).toNat ≤ 4398046511104)) (by omega)) (Below.refl _ _) (Nat.le_refl _) ?_; intro v303 w4 ho5 hb hg_ hnew_; clear hg_ hnew_; (first | rw [← Ny302.out] at ho5 | (simp only [Int.reduceToNat] at ho5; rw [← Ny302.out] at ho5)); have n0_ := Aside0.mk (Kd.R_lower ho5 (below_size (bs HB.out))); have n1_ := Aside0.mk (below_step (bs HB.out) hb); clear HB; have HO304 := n0_; have HB := n1_; clear n0_ n1_; clear hb ho5))
   go_loopg [3, 4] k (fun kq v3 v4 w' => ∃ (x3_1 : List (S48)) (x4_1 : Int), v4 = .int .i64 x4_1 ∧ Aside0 (signalbenchref14_Merge.l0 kq l0 x3_1 x4_1 = some r) ∧ Aside0 (kq ≤ k) ∧ Aside0 (Kd.R k48 48 w' w.heap.size (fun _ => True) v3 x3_1) ∧ Aside0 (Below w.heap.size w w'))
   case atStart => exact ⟨(y302), (0), (by first | rfl | (simp; done) | (simp [*]; done)), H', ⟨Nat.le_refl _⟩, ⟨by (with_reducible repeat (first | apply Kd.R_alloc | apply Kd.R_drewN | apply Kd.R_drew)); exact HO304.out⟩, ⟨bs HB.out⟩⟩
   case round =>
    clear H'
    try clear c1
    try clear c2
    try clear c2b0
    try clear c2b1
    try clear p2
    try clear c3
    try clear c3b0
    try clear c3b1
    obtain ⟨x3_1, x4_1, rfl, HA, HK1, HO_3, HB⟩ := hrel
    cases gk with
    | zero => exact absurd HA.out (by simp [signalbenchref14_Merge.l0])
    | succ k1 =>
     have H := HA.out
     clear HA
     simp only [signalbenchref14_Merge.l0] at H
     by_cases c6 : x4_1 < (l0.length : Int)
     ·
      rw [if_pos c6] at H
      have c6b0 : decide (x4_1 < (l0.length : Int)) = true := decide_eq_true c6
      clear c6
      by_cases c7 : x4_1 > 0
      ·
       rw [if_pos c7] at H
       have c7b0 : decide (0 < x4_1) = true := decide_eq_true c7
       clear c7
       obtain ⟨ji8, hji8⟩ : ∃ j_ : Int, (wrap64 (x4_1 - 1)) = j_ := ⟨_, rfl⟩
       replace H : (if 0 ≤ (ji8) then (if (ji8) < (l0.length : Int) then ((signalbenchref14_Plain.f ((rd_T48 l0 (ji8)).f0) ((rd_T48 l0 (ji8)).f1) ((rd_T48 l0 (ji8)).f2) ((rd_T48 l0 (ji8)).f3) ((rd_T48 l0 (ji8)).f4) ((rd_T48 l0 (ji8)).f5) ((rd_T48 l0 (ji8)).f6)).bind fun t306 => (if t306 = true then (if 0 ≤ x4_1 then ((signalbenchref14_Plain.f ((rd_T48 l0 x4_1).f0) ((rd_T48 l0 x4_1).f1) ((rd_T48 l0 x4_1).f2) ((rd_T48 l0 x4_1).f3) ((rd_T48 l0 x4_1).f4) ((rd_T48 l0 x4_1).f5) ((rd_T48 l0 x4_1).f6)).bind fun t308 => (if t308 = true then (if ((rd_T48 l0 (ji8)).f3) = ((rd_T48 l0 x4_1).f3) then (if ((rd_T48 l0 (ji8)).f2) = ((rd_T48 l0 x4_1).f1) then (if 0 ≤ (wrap64 ((x3_1.length : Int) - 1)) then (if (wrap64 ((x3_1.length : Int) - 1)) < (x3_1.length : Int) then (signalbenchref14_Merge.l0 k1 l0 (x3_1.set ((wrap64 ((x3_1.length : Int) - 1)) : Int).toNat (⟨(rd_T48 x3_1 (wrap64 ((x3_1.length : Int) - 1))).f0, (rd_T48 x3_1 (wrap64 ((x3_1.length : Int) - 1))).f1, (rd_T48 l0 x4_1).f2, (rd_T48 x3_1 (wrap64 ((x3_1.length : Int) - 1))).f3, (rd_T48 x3_1 (wrap64 ((x3_1.length : Int) - 1))).f4, (rd_T48 x3_1 (wrap64 ((x3_1.length : Int) - 1))).f5, (rd_T48 x3_1 (wrap64 ((x3_1.length : Int) - 1))).f6⟩ : S48)) (wrap64 (x4_1 + 1))) else (none)) else (none)) else (if x3_1.length < 2199023255552 then (signalbenchref14_Merge.l0 k1 l0 (x3_1 ++ [(⟨(rd_T48 l0 x4_1).f0, (rd_T48 l0 x4_1).f1, (rd_T48 l0 x4_1).f2, (rd_T48 l0 x4_1).f3, (rd_T48 l0 x4_1).f4, (rd_T48 l0 x4_1).f5, (rd_T48 l0 x4_1).f6⟩ : S48)]) (wrap64 (x4_1 + 1))) else (none))) else (if x3_1.length < 2199023255552 then (signalbenchref14_Merge.l0 k1 l0 (x3_1 ++ [(⟨(rd_T48 l0 x4_1).f0, (rd_T48 l0 x4_1).f1, (rd_T48 l0 x4_1).f2, (rd_T48 l0 x4_1).f3, (rd_T48 l0 x4_1).f4, (rd_T48 l0 x4_1).f5, (rd_T48 l0 x4_1).f6⟩ : S48)]) (wrap64 (x4_1 + 1))) else (none))) else (if x3_1.length < 2199023255552 then (signalbenchref14_Merge.l0 k1 l0 (x3_1 ++ [(⟨(rd_T48 l0 x4_1).f0, (rd_T48 l0 x4_1).f1, (rd_T48 l0 x4_1).f2, (rd_T48 l0 x4_1).f3, (rd_T48 l0 x4_1).f4, (rd_T48 l0 x4_1).f5, (rd_T48 l0 x4_1).f6⟩ : S48)]) (wrap64 (x4_1 + 1))) else (none)))) else (none)) else (if 0 ≤ x4_1 then (if x3_1.length < 2199023255552 then (signalbenchref14_Merge.l0 k1 l0 (x3_1 ++ [(⟨(rd_T48 l0 x4_1).f0, (rd_T48 l0 x4_1).f1, (rd_T48 l0 x4_1).f2, (rd_T48 l0 x4_1).f3, (rd_T48 l0 x4_1).f4, (rd_T48 l0 x4_1).f5, (rd_T48 l0 x4_1).f6⟩ : S48)]) (wrap64 (x4_1 + 1))) else (none)) else (none)))) else (none)) else (none)) = some r := by first | (rw [hji8] at H; exact H) | (simp only [hji8] at H ⊢; exact H)
       have hji8w : (IntKind.i64.wrap (x4_1 - 1)) = ji8 := (i64_w _).trans hji8
       by_cases c9 : 0 ≤ (ji8)
       ·
        rw [if_pos c9] at H
        have c9b0 : decide (0 ≤ (ji8)) = true := decide_eq_true c9
        clear c9
        by_cases c10 : (ji8) < (l0.length : Int)
        ·
         rw [if_pos c10] at H
         have c10b0 : decide ((ji8) < (l0.length : Int)) = true := decide_eq_true c10
         clear c10
         replace H := Option.bind_eq_some_iff.mp H
         obtain ⟨t306, A110, H⟩ := H
         replace H : (if t306 = true then (if 0 ≤ x4_1 then ((signalbenchref14_Plain.f ((rd_T48 l0 x4_1).f0) ((rd_T48 l0 x4_1).f1) ((rd_T48 l0 x4_1).f2) ((rd_T48 l0 x4_1).f3) ((rd_T48 l0 x4_1).f4) ((rd_T48 l0 x4_1).f5) ((rd_T48 l0 x4_1).f6)).bind fun t308 => (if t308 = true then (if ((rd_T48 l0 (ji8)).f3) = ((rd_T48 l0 x4_1).f3) then (if ((rd_T48 l0 (ji8)).f2) = ((rd_T48 l0 x4_1).f1) then (if 0 ≤ (wrap64 ((x3_1.length : Int) - 1)) then (if (wrap64 ((x3_1.length : Int) - 1)) < (x3_1.length : Int) then (signalbenchref14_Merge.l0 k1 l0 (x3_1.set ((wrap64 ((x3_1.length : Int) - 1)) : Int).toNat (⟨(rd_T48 x3_1 (wrap64 ((x3_1.length : Int) - 1))).f0, (rd_T48 x3_1 (wrap64 ((x3_1.length : Int) - 1))).f1, (rd_T48 l0 x4_1).f2, (rd_T48 x3_1 (wrap64 ((x3_1.length : Int) - 1))).f3, (rd_T48 x3_1 (wrap64 ((x3_1.length : Int) - 1))).f4, (rd_T48 x3_1 (wrap64 ((x3_1.length : Int) - 1))).f5, (rd_T48 x3_1 (wrap64 ((x3_1.length : Int) - 1))).f6⟩ : S48)) (wrap64 (x4_1 + 1))) else (none)) else (none)) else (if x3_1.length < 2199023255552 then (signalbenchref14_Merge.l0 k1 l0 (x3_1 ++ [(⟨(rd_T48 l0 x4_1).f0, (rd_T48 l0 x4_1).f1, (rd_T48 l0 x4_1).f2, (rd_T48 l0 x4_1).f3, (rd_T48 l0 x4_1).f4, (rd_T48 l0 x4_1).f5, (rd_T48 l0 x4_1).f6⟩ : S48)]) (wrap64 (x4_1 + 1))) else (none))) else (if x3_1.length < 2199023255552 then (signalbenchref14_Merge.l0 k1 l0 (x3_1 ++ [(⟨(rd_T48 l0 x4_1).f0, (rd_T48 l0 x4_1).f1, (rd_T48 l0 x4_1).f2, (rd_T48 l0 x4_1).f3, (rd_T48 l0 x4_1).f4, (rd_T48 l0 x4_1).f5, (rd_T48 l0 x4_1).f6⟩ : S48)]) (wrap64 (x4_1 + 1))) else (none))) else (if x3_1.length < 2199023255552 then (signalbenchref14_Merge.l0 k1 l0 (x3_1 ++ [(⟨(rd_T48 l0 x4_1).f0, (rd_T48 l0 x4_1).f1, (rd_T48 l0 x4_1).f2, (rd_T48 l0 x4_1).f3, (rd_T48 l0 x4_1).f4, (rd_T48 l0 x4_1).f5, (rd_T48 l0 x4_1).f6⟩ : S48)]) (wrap64 (x4_1 + 1))) else (none)))) else (none)) else (if 0 ≤ x4_1 then (if x3_1.length < 2199023255552 then (signalbenchref14_Merge.l0 k1 l0 (x3_1 ++ [(⟨(rd_T48 l0 x4_1).f0, (rd_T48 l0 x4_1).f1, (rd_T48 l0 x4_1).f2, (rd_T48 l0 x4_1).f3, (rd_T48 l0 x4_1).f4, (rd_T48 l0 x4_1).f5, (rd_T48 l0 x4_1).f6⟩ : S48)]) (wrap64 (x4_1 + 1))) else (none)) else (none))) = some r := H
         have A11 := Aside0.mk A110
         clear A110
         by_cases c12 : t306 = true
         ·
          subst c12
          have H1 : (if 0 ≤ x4_1 then ((signalbenchref14_Plain.f ((rd_T48 l0 x4_1).f0) ((rd_T48 l0 x4_1).f1) ((rd_T48 l0 x4_1).f2) ((rd_T48 l0 x4_1).f3) ((rd_T48 l0 x4_1).f4) ((rd_T48 l0 x4_1).f5) ((rd_T48 l0 x4_1).f6)).bind fun t308 => (if t308 = true then (if ((rd_T48 l0 (ji8)).f3) = ((rd_T48 l0 x4_1).f3) then (if ((rd_T48 l0 (ji8)).f2) = ((rd_T48 l0 x4_1).f1) then (if 0 ≤ (wrap64 ((x3_1.length : Int) - 1)) then (if (wrap64 ((x3_1.length : Int) - 1)) < (x3_1.length : Int) then (signalbenchref14_Merge.l0 k1 l0 (x3_1.set ((wrap64 ((x3_1.length : Int) - 1)) : Int).toNat (⟨(rd_T48 x3_1 (wrap64 ((x3_1.length : Int) - 1))).f0, (rd_T48 x3_1 (wrap64 ((x3_1.length : Int) - 1))).f1, (rd_T48 l0 x4_1).f2, (rd_T48 x3_1 (wrap64 ((x3_1.length : Int) - 1))).f3, (rd_T48 x3_1 (wrap64 ((x3_1.length : Int) - 1))).f4, (rd_T48 x3_1 (wrap64 ((x3_1.length : Int) - 1))).f5, (rd_T48 x3_1 (wrap64 ((x3_1.length : Int) - 1))).f6⟩ : S48)) (wrap64 (x4_1 + 1))) else (none)) else (none)) else (if x3_1.length < 2199023255552 then (signalbenchref14_Merge.l0 k1 l0 (x3_1 ++ [(⟨(rd_T48 l0 x4_1).f0, (rd_T48 l0 x4_1).f1, (rd_T48 l0 x4_1).f2, (rd_T48 l0 x4_1).f3, (rd_T48 l0 x4_1).f4, (rd_T48 l0 x4_1).f5, (rd_T48 l0 x4_1).f6⟩ : S48)]) (wrap64 (x4_1 + 1))) else (none))) else (if x3_1.length < 2199023255552 then (signalbenchref14_Merge.l0 k1 l0 (x3_1 ++ [(⟨(rd_T48 l0 x4_1).f0, (rd_T48 l0 x4_1).f1, (rd_T48 l0 x4_1).f2, (rd_T48 l0 x4_1).f3, (rd_T48 l0 x4_1).f4, (rd_T48 l0 x4_1).f5, (rd_T48 l0 x4_1).f6⟩ : S48)]) (wrap64 (x4_1 + 1))) else (none))) else (if x3_1.length < 2199023255552 then (signalbenchref14_Merge.l0 k1 l0 (x3_1 ++ [(⟨(rd_T48 l0 x4_1).f0, (rd_T48 l0 x4_1).f1, (rd_T48 l0 x4_1).f2, (rd_T48 l0 x4_1).f3, (rd_T48 l0 x4_1).f4, (rd_T48 l0 x4_1).f5, (rd_T48 l0 x4_1).f6⟩ : S48)]) (wrap64 (x4_1 + 1))) else (none)))) else (none)) = some r := by rw [if_pos rfl] at H; exact H
          clear H
          have H := H1
          clear H1
          by_cases c13 : 0 ≤ x4_1
          ·
           rw [if_pos c13] at H
           have c13b0 : decide (0 ≤ x4_1) = true := decide_eq_true c13
           clear c13
           replace H := Option.bind_eq_some_iff.mp H
           obtain ⟨t308, A140, H⟩ := H
           replace H : (if t308 = true then (if ((rd_T48 l0 (ji8)).f3) = ((rd_T48 l0 x4_1).f3) then (if ((rd_T48 l0 (ji8)).f2) = ((rd_T48 l0 x4_1).f1) then (if 0 ≤ (wrap64 ((x3_1.length : Int) - 1)) then (if (wrap64 ((x3_1.length : Int) - 1)) < (x3_1.length : Int) then (signalbenchref14_Merge.l0 k1 l0 (x3_1.set ((wrap64 ((x3_1.length : Int) - 1)) : Int).toNat (⟨(rd_T48 x3_1 (wrap64 ((x3_1.length : Int) - 1))).f0, (rd_T48 x3_1 (wrap64 ((x3_1.length : Int) - 1))).f1, (rd_T48 l0 x4_1).f2, (rd_T48 x3_1 (wrap64 ((x3_1.length : Int) - 1))).f3, (rd_T48 x3_1 (wrap64 ((x3_1.length : Int) - 1))).f4, (rd_T48 x3_1 (wrap64 ((x3_1.length : Int) - 1))).f5, (rd_T48 x3_1 (wrap64 ((x3_1.length : Int) - 1))).f6⟩ : S48)) (wrap64 (x4_1 + 1))) else (none)) else (none)) else (if x3_1.length < 2199023255552 then (signalbenchref14_Merge.l0 k1 l0 (x3_1 ++ [(⟨(rd_T48 l0 x4_1).f0, (rd_T48 l0 x4_1).f1, (rd_T48 l0 x4_1).f2, (rd_T48 l0 x4_1).f3, (rd_T48 l0 x4_1).f4, (rd_T48 l0 x4_1).f5, (rd_T48 l0 x4_1).f6⟩ : S48)]) (wrap64 (x4_1 + 1))) else (none))) else (if x3_1.length < 2199023255552 then (signalbenchref14_Merge.l0 k1 l0 (x3_1 ++ [(⟨(rd_T48 l0 x4_1).f0, (rd_T48 l0 x4_1).f1, (rd_T48 l0 x4_1).f2, (rd_T48 l0 x4_1).f3, (rd_T48 l0 x4_1).f4, (rd_T48 l0 x4_1).f5, (rd_T48 l0 x4_1).f6⟩ : S48)]) (wrap64 (x4_1 + 1))) else (none))) else (if x3_1.length < 2199023255552 then (signalbenchref14_Merge.l0 k1 l0 (x3_1 ++ [(⟨(rd_T48 l0 x4_1).f0, (rd_T48 l0 x4_1).f1, (rd_T48 l0 x4_1).f2, (rd_T48 l0 x4_1).f3, (rd_T48 l0 x4_1).f4, (rd_T48 l0 x4_1).f5, (rd_T48 l0 x4_1).f6⟩ : S48)]) (wrap64 (x4_1 + 1))) else (none))) = some r := H
           have A14 := Aside0.mk A140
           clear A140
           by_cases c15 : t308 = true
           ·
            subst c15
            have H1 : (if ((rd_T48 l0 (ji8)).f3) = ((rd_T48 l0 x4_1).f3) then (if ((rd_T48 l0 (ji8)).f2) = ((rd_T48 l0 x4_1).f1) then (if 0 ≤ (wrap64 ((x3_1.length : Int) - 1)) then (if (wrap64 ((x3_1.length : Int) - 1)) < (x3_1.length : Int) then (signalbenchref14_Merge.l0 k1 l0 (x3_1.set ((wrap64 ((x3_1.length : Int) - 1)) : Int).toNat (⟨(rd_T48 x3_1 (wrap64 ((x3_1.length : Int) - 1))).f0, (rd_T48 x3_1 (wrap64 ((x3_1.length : Int) - 1))).f1, (rd_T48 l0 x4_1).f2, (rd_T48 x3_1 (wrap64 ((x3_1.length : Int) - 1))).f3, (rd_T48 x3_1 (wrap64 ((x3_1.length : Int) - 1))).f4, (rd_T48 x3_1 (wrap64 ((x3_1.length : Int) - 1))).f5, (rd_T48 x3_1 (wrap64 ((x3_1.length : Int) - 1))).f6⟩ : S48)) (wrap64 (x4_1 + 1))) else (none)) else (none)) else (if x3_1.length < 2199023255552 then (signalbenchref14_Merge.l0 k1 l0 (x3_1 ++ [(⟨(rd_T48 l0 x4_1).f0, (rd_T48 l0 x4_1).f1, (rd_T48 l0 x4_1).f2, (rd_T48 l0 x4_1).f3, (rd_T48 l0 x4_1).f4, (rd_T48 l0 x4_1).f5, (rd_T48 l0 x4_1).f6⟩ : S48)]) (wrap64 (x4_1 + 1))) else (none))) else (if x3_1.length < 2199023255552 then (signalbenchref14_Merge.l0 k1 l0 (x3_1 ++ [(⟨(rd_T48 l0 x4_1).f0, (rd_T48 l0 x4_1).f1, (rd_T48 l0 x4_1).f2, (rd_T48 l0 x4_1).f3, (rd_T48 l0 x4_1).f4, (rd_T48 l0 x4_1).f5, (rd_T48 l0 x4_1).f6⟩ : S48)]) (wrap64 (x4_1 + 1))) else (none))) = some r := by rw [if_pos rfl] at H; exact H
            clear H
            have H := H1
            clear H1
            by_cases c16 : ((rd_T48 l0 (ji8)).f3) = ((rd_T48 l0 x4_1).f3)
            ·
             rw [if_pos c16] at H
             have c16b0 : (((rd_T48 l0 (ji8)).f3) == ((rd_T48 l0 x4_1).f3)) = true := beq_iff_eq.mpr c16
             have c16b1 : (((rd_T48 l0 (ji8)).f3) != ((rd_T48 l0 x4_1).f3)) = false := bne_eq_false_iff_eq.mpr c16
             clear c16
             by_cases c17 : ((rd_T48 l0 (ji8)).f2) = ((rd_T48 l0 x4_1).f1)
             ·
              rw [if_pos c17] at H
              have c17b0 : (((rd_T48 l0 (ji8)).f2) == ((rd_T48 l0 x4_1).f1)) = true := beq_iff_eq.mpr c17
              have c17b1 : (((rd_T48 l0 (ji8)).f2) != ((rd_T48 l0 x4_1).f1)) = false := bne_eq_false_iff_eq.mpr c17
              clear c17
              obtain ⟨ji18, hji18⟩ : ∃ j_ : Int, (wrap64 ((x3_1.length : Int) - 1)) = j_ := ⟨_, rfl⟩
              replace H : (if 0 ≤ (ji18) then (if (ji18) < (x3_1.length : Int) then (signalbenchref14_Merge.l0 k1 l0 (x3_1.set ((ji18) : Int).toNat (⟨(rd_T48 x3_1 (ji18)).f0, (rd_T48 x3_1 (ji18)).f1, (rd_T48 l0 x4_1).f2, (rd_T48 x3_1 (ji18)).f3, (rd_T48 x3_1 (ji18)).f4, (rd_T48 x3_1 (ji18)).f5, (rd_T48 x3_1 (ji18)).f6⟩ : S48)) (wrap64 (x4_1 + 1))) else (none)) else (none)) = some r := by first | (rw [hji18] at H; exact H) | (simp only [hji18] at H ⊢; exact H)
              (try rw [hji18] at A11)
              (try rw [hji18] at A14)
              have hji18w : (IntKind.i64.wrap ((x3_1.length : Int) - 1)) = ji18 := (i64_w _).trans hji18
              by_cases c19 : 0 ≤ (ji18)
              ·
               rw [if_pos c19] at H
               have c19b0 : decide (0 ≤ (ji18)) = true := decide_eq_true c19
               clear c19
               by_cases c20 : (ji18) < (x3_1.length : Int)
               ·
                rw [if_pos c20] at H
                have c20b0 : decide ((ji18) < (x3_1.length : Int)) = true := decide_eq_true c20
                clear c20
                obtain ⟨y314, hy314⟩ : ∃ y_ : List (S48), y_ = (x3_1.set ((ji18) : Int).toNat (⟨(rd_T48 x3_1 (ji18)).f0, (rd_T48 x3_1 (ji18)).f1, (rd_T48 l0 x4_1).f2, (rd_T48 x3_1 (ji18)).f3, (rd_T48 x3_1 (ji18)).f4, (rd_T48 x3_1 (ji18)).f5, (rd_T48 x3_1 (ji18)).f6⟩ : S48)) := ⟨_, rfl⟩
                replace H : (signalbenchref14_Merge.l0 k1 l0 y314 (wrap64 (x4_1 + 1))) = some r := by first | (rw [hy314]; with_reducible exact H) | (have H2_ := (Option.bind_some _ _).symm.trans H; rw [hy314]; with_reducible exact H2_) | (have H2_ := (Option.bind_some _ _).symm.trans H; with_reducible exact H2_) | with_reducible exact H | (rw [hy314]; exact H) | exact H
                have Ny314 := Aside0.mk hy314
                clear hy314
                have H' := Aside0.mk H
                clear H
                try go_wp2
                have n0_ := Aside0.mk (Kd.R_drew HO_3.out)
                have n1_ := Aside0.mk (below_drew1 HB.out)
                clear HO_3
                clear HB
                have HO_3 := n0_
                have HB := n1_
                clear n0_ n1_
                have p305 : 0 ≤ ((ji8) : Int) := of_decide_eq_true (by first | (with_reducible assumption) | assumption)
                have q305 : (ji8) < (l0.length : Int) := of_decide_eq_true (by first | (with_reducible assumption) | assumption)
                obtain ⟨ad305, e305, hx305_0, hx305_1, hx305_2, hx305_3, hx305_4, hx305_5, hx305_6⟩ := at_T48 HR0.out (ji8) p305 q305
                have hw305_6 := hx305_6
                have hw305_5 := hx305_5
                have hw305_4 := hx305_4
                have hw305_3 := hx305_3
                have hw305_2 := hx305_2
                have hw305_1 := hx305_1
                have hw305_0 := hx305_0
                cases e305
                replace hx305_0 := pw_cell_below HB.out hx305_0
                replace hx305_1 := pw_cell_below HB.out hx305_1
                replace hx305_2 := pw_cell_below HB.out hx305_2
                replace hx305_3 := pw_cell_below HB.out hx305_3
                replace hx305_4 := pw_cell_below HB.out hx305_4
                replace hx305_5 := pw_cell_below HB.out hx305_5
                replace hx305_6 := pw_cell_below HB.out hx305_6
                replace p305 := eq_true p305
                replace q305 := eq_true q305
                have p307 : 0 ≤ (x4_1 : Int) := of_decide_eq_true (by first | (with_reducible assumption) | assumption)
                have q307 : x4_1 < (l0.length : Int) := of_decide_eq_true (by first | (with_reducible assumption) | assumption)
                obtain ⟨ad307, e307, hx307_0, hx307_1, hx307_2, hx307_3, hx307_4, hx307_5, hx307_6⟩ := at_T48 HR0.out x4_1 p307 q307
                have hw307_6 := hx307_6
                have hw307_5 := hx307_5
                have hw307_4 := hx307_4
                have hw307_3 := hx307_3
                have hw307_2 := hx307_2
                have hw307_1 := hx307_1
                have hw307_0 := hx307_0
                obtain rfl : ad305 = ad307 := (by injection e307)
                replace hx307_0 := pw_cell_below HB.out hx307_0
                replace hx307_1 := pw_cell_below HB.out hx307_1
                replace hx307_2 := pw_cell_below HB.out hx307_2
                replace hx307_3 := pw_cell_below HB.out hx307_3
                replace hx307_4 := pw_cell_below HB.out hx307_4
                replace hx307_5 := pw_cell_below HB.out hx307_5
                replace hx307_6 := pw_cell_below HB.out hx307_6
                replace p307 := eq_true p307
                replace q307 := eq_true q307
                have p309 : 0 ≤ ((ji8) : Int) := of_decide_eq_true (by first | (with_reducible assumption) | assumption)
                have q309 : (ji8) < (l0.length : Int) := of_decide_eq_true (by first | (with_reducible assumption) | assumption)
                obtain ⟨ad309, e309, hx309_0, hx309_1, hx309_2, hx309_3, hx309_4, hx309_5, hx309_6⟩ := at_T48 HR0.out (ji8) p309 q309
                have hw309_6 := hx309_6
                have hw309_5 := hx309_5
                have hw309_4 := hx309_4
                have hw309_3 := hx309_3
                have hw309_2 := hx309_2
                have hw309_1 := hx309_1
                have hw309_0 := hx309_0
                obtain rfl : ad305 = ad309 := (by injection e309)
                replace hx309_0 := pw_cell_below HB.out hx309_0
                replace hx309_1 := pw_cell_below HB.out hx309_1
                replace hx309_2 := pw_cell_below HB.out hx309_2
                replace hx309_3 := pw_cell_below HB.out hx309_3
                replace hx309_4 := pw_cell_below HB.out hx309_4
                replace hx309_5 := pw_cell_below HB.out hx309_5
                replace hx309_6 := pw_cell_below HB.out hx309_6
                replace p309 := eq_true p309
                replace q309 := eq_true q309
                have p310 : 0 ≤ (x4_1 : Int) := of_decide_eq_true (by first | (with_reducible assumption) | assumption)
                have q310 : x4_1 < (l0.length : Int) := of_decide_eq_true (by first | (with_reducible assumption) | assumption)
                obtain ⟨ad310, e310, hx310_0, hx310_1, hx310_2, hx310_3, hx310_4, hx310_5, hx310_6⟩ := at_T48 HR0.out x4_1 p310 q310
                have hw310_6 := hx310_6
                have hw310_5 := hx310_5
                have hw310_4 := hx310_4
                have hw310_3 := hx310_3
                have hw310_2 := hx310_2
                have hw310_1 := hx310_1
                have hw310_0 := hx310_0
                obtain rfl : ad305 = ad310 := (by injection e310)
                replace hx310_0 := pw_cell_below HB.out hx310_0
                replace hx310_1 := pw_cell_below HB.out hx310_1
                replace hx310_2 := pw_cell_below HB.out hx310_2
                replace hx310_3 := pw_cell_below HB.out hx310_3
                replace hx310_4 := pw_cell_below HB.out hx310_4
                replace hx310_5 := pw_cell_below HB.out hx310_5
                replace hx310_6 := pw_cell_below HB.out hx310_6
                replace p310 := eq_true p310
                replace q310 := eq_true q310
                have p311 : 0 ≤ ((ji8) : Int) := of_decide_eq_true (by first | (with_reducible assumption) | assumption)
                have q311 : (ji8) < (l0.length : Int) := of_decide_eq_true (by first | (with_reducible assumption) | assumption)
                obtain ⟨ad311, e311, hx311_0, hx311_1, hx311_2, hx311_3, hx311_4, hx311_5, hx311_6⟩ := at_T48 HR0.out (ji8) p311 q311
                have hw311_6 := hx311_6
                have hw311_5 := hx311_5
                have hw311_4 := hx311_4
                have hw311_3 := hx311_3
                have hw311_2 := hx311_2
                have hw311_1 := hx311_1
                have hw311_0 := hx311_0
                obtain rfl : ad305 = ad311 := (by injection e311)
                replace hx311_0 := pw_cell_below HB.out hx311_0
                replace hx311_1 := pw_cell_below HB.out hx311_1
                replace hx311_2 := pw_cell_below HB.out hx311_2
                replace hx311_3 := pw_cell_below HB.out hx311_3
                replace hx311_4 := pw_cell_below HB.out hx311_4
                replace hx311_5 := pw_cell_below HB.out hx311_5
                replace hx311_6 := pw_cell_below HB.out hx311_6
                replace p311 := eq_true p311
                replace q311 := eq_true q311
                have p312 : 0 ≤ (x4_1 : Int) := of_decide_eq_true (by first | (with_reducible assumption) | assumption)
                have q312 : x4_1 < (l0.length : Int) := of_decide_eq_true (by first | (with_reducible assumption) | assumption)
                obtain ⟨ad312, e312, hx312_0, hx312_1, hx312_2, hx312_3, hx312_4, hx312_5, hx312_6⟩ := at_T48 HR0.out x4_1 p312 q312
                have hw312_6 := hx312_6
                have hw312_5 := hx312_5
                have hw312_4 := hx312_4
                have hw312_3 := hx312_3
                have hw312_2 := hx312_2
                have hw312_1 := hx312_1
                have hw312_0 := hx312_0
                obtain rfl : ad305 = ad312 := (by injection e312)
                replace hx312_0 := pw_cell_below HB.out hx312_0
                replace hx312_1 := pw_cell_below HB.out hx312_1
                replace hx312_2 := pw_cell_below HB.out hx312_2
                replace hx312_3 := pw_cell_below HB.out hx312_3
                replace hx312_4 := pw_cell_below HB.out hx312_4
                replace hx312_5 := pw_cell_below HB.out hx312_5
                replace hx312_6 := pw_cell_below HB.out hx312_6
                replace p312 := eq_true p312
                replace q312 := eq_true q312
                refine start_ (n := 45) (S := fun w' => w'.cell? (ad305.add (((ji8)).toNat * 7)) = some (.int .i64 ((rd_T48 l0 (ji8)).f0)) ∧ w'.cell? ⟨(ad305.add (((ji8)).toNat * 7)).block, (ad305.add (((ji8)).toNat * 7)).off + 1, none⟩ = some (.int .i64 ((rd_T48 l0 (ji8)).f1)) ∧ w'.cell? ⟨(ad305.add (((ji8)).toNat * 7)).block, (ad305.add (((ji8)).toNat * 7)).off + 2, none⟩ = some (.int .i64 ((rd_T48 l0 (ji8)).f2)) ∧ w'.cell? ⟨(ad305.add (((ji8)).toNat * 7)).block, (ad305.add (((ji8)).toNat * 7)).off + 3, none⟩ = some (.int .i64 ((rd_T48 l0 (ji8)).f3)) ∧ w'.cell? ⟨(ad305.add (((ji8)).toNat * 7)).block, (ad305.add (((ji8)).toNat * 7)).off + 4, none⟩ = some (.int .i64 ((rd_T48 l0 (ji8)).f4)) ∧ w'.cell? ⟨(ad305.add (((ji8)).toNat * 7)).block, (ad305.add (((ji8)).toNat * 7)).off + 5, none⟩ = some (.string ((rd_T48 l0 (ji8)).f5)) ∧ w'.cell? ⟨(ad305.add (((ji8)).toNat * 7)).block, (ad305.add (((ji8)).toNat * 7)).off + 6, none⟩ = some (.int .i64 ((rd_T48 l0 (ji8)).f6)) ∧ w'.cell? (ad305.add ((x4_1).toNat * 7)) = some (.int .i64 ((rd_T48 l0 x4_1).f0)) ∧ w'.cell? ⟨(ad305.add ((x4_1).toNat * 7)).block, (ad305.add ((x4_1).toNat * 7)).off + 1, none⟩ = some (.int .i64 ((rd_T48 l0 x4_1).f1)) ∧ w'.cell? ⟨(ad305.add ((x4_1).toNat * 7)).block, (ad305.add ((x4_1).toNat * 7)).off + 2, none⟩ = some (.int .i64 ((rd_T48 l0 x4_1).f2)) ∧ w'.cell? ⟨(ad305.add ((x4_1).toNat * 7)).block, (ad305.add ((x4_1).toNat * 7)).off + 3, none⟩ = some (.int .i64 ((rd_T48 l0 x4_1).f3)) ∧ w'.cell? ⟨(ad305.add ((x4_1).toNat * 7)).block, (ad305.add ((x4_1).toNat * 7)).off + 4, none⟩ = some (.int .i64 ((rd_T48 l0 x4_1).f4)) ∧ w'.cell? ⟨(ad305.add ((x4_1).toNat * 7)).block, (ad305.add ((x4_1).toNat * 7)).off + 5, none⟩ = some (.string ((rd_T48 l0 x4_1).f5)) ∧ w'.cell? ⟨(ad305.add ((x4_1).toNat * 7)).block, (ad305.add ((x4_1).toNat * 7)).off + 6, none⟩ = some (.int .i64 ((rd_T48 l0 x4_1).f6)) ∧ w'.cell? (ad305.add (((ji8)).toNat * 7)) = some (.int .i64 ((rd_T48 l0 (ji8)).f0)) ∧ w'.cell? ⟨(ad305.add (((ji8)).toNat * 7)).block, (ad305.add (((ji8)).toNat * 7)).off + 1, none⟩ = some (.int .i64 ((rd_T48 l0 (ji8)).f1)) ∧ w'.cell? ⟨(ad305.add (((ji8)).toNat * 7)).block, (ad305.add (((ji8)).toNat * 7)).off + 2, none⟩ = some (.int .i64 ((rd_T48 l0 (ji8)).f2)) ∧ w'.cell? ⟨(ad305.add (((ji8)).toNat * 7)).block, (ad305.add (((ji8)).toNat * 7)).off + 3, none⟩ = some (.int .i64 ((rd_T48 l0 (ji8)).f3)) ∧ w'.cell? ⟨(ad305.add (((ji8)).toNat * 7)).block, (ad305.add (((ji8)).toNat * 7)).off + 4, none⟩ = some (.int .i64 ((rd_T48 l0 (ji8)).f4)) ∧ w'.cell? ⟨(ad305.add (((ji8)).toNat * 7)).block, (ad305.add (((ji8)).toNat * 7)).off + 5, none⟩ = some (.string ((rd_T48 l0 (ji8)).f5)) ∧ w'.cell? ⟨(ad305.add (((ji8)).toNat * 7)).block, (ad305.add (((ji8)).toNat * 7)).off + 6, none⟩ = some (.int .i64 ((rd_T48 l0 (ji8)).f6)) ∧ w'.cell? (ad305.add ((x4_1).toNat * 7)) = some (.int .i64 ((rd_T48 l0 x4_1).f0)) ∧ w'.cell? ⟨(ad305.add ((x4_1).toNat * 7)).block, (ad305.add ((x4_1).toNat * 7)).off + 1, none⟩ = some (.int .i64 ((rd_T48 l0 x4_1).f1)) ∧ w'.cell? ⟨(ad305.add ((x4_1).toNat * 7)).block, (ad305.add ((x4_1).toNat * 7)).off + 2, none⟩ = some (.int .i64 ((rd_T48 l0 x4_1).f2)) ∧ w'.cell? ⟨(ad305.add ((x4_1).toNat * 7)).block, (ad305.add ((x4_1).toNat * 7)).off + 3, none⟩ = some (.int .i64 ((rd_T48 l0 x4_1).f3)) ∧ w'.cell? ⟨(ad305.add ((x4_1).toNat * 7)).block, (ad305.add ((x4_1).toNat * 7)).off + 4, none⟩ = some (.int .i64 ((rd_T48 l0 x4_1).f4)) ∧ w'.cell? ⟨(ad305.add ((x4_1).toNat * 7)).block, (ad305.add ((x4_1).toNat * 7)).off + 5, none⟩ = some (.string ((rd_T48 l0 x4_1).f5)) ∧ w'.cell? ⟨(ad305.add ((x4_1).toNat * 7)).block, (ad305.add ((x4_1).toNat * 7)).off + 6, none⟩ = some (.int .i64 ((rd_T48 l0 x4_1).f6)) ∧ w'.cell? (ad305.add (((ji8)).toNat * 7)) = some (.int .i64 ((rd_T48 l0 (ji8)).f0)) ∧ w'.cell? ⟨(ad305.add (((ji8)).toNat * 7)).block, (ad305.add (((ji8)).toNat * 7)).off + 1, none⟩ = some (.int .i64 ((rd_T48 l0 (ji8)).f1)) ∧ w'.cell? ⟨(ad305.add (((ji8)).toNat * 7)).block, (ad305.add (((ji8)).toNat * 7)).off + 2, none⟩ = some (.int .i64 ((rd_T48 l0 (ji8)).f2)) ∧ w'.cell? ⟨(ad305.add (((ji8)).toNat * 7)).block, (ad305.add (((ji8)).toNat * 7)).off + 3, none⟩ = some (.int .i64 ((rd_T48 l0 (ji8)).f3)) ∧ w'.cell? ⟨(ad305.add (((ji8)).toNat * 7)).block, (ad305.add (((ji8)).toNat * 7)).off + 4, none⟩ = some (.int .i64 ((rd_T48 l0 (ji8)).f4)) ∧ w'.cell? ⟨(ad305.add (((ji8)).toNat * 7)).block, (ad305.add (((ji8)).toNat * 7)).off + 5, none⟩ = some (.string ((rd_T48 l0 (ji8)).f5)) ∧ w'.cell? ⟨(ad305.add (((ji8)).toNat * 7)).block, (ad305.add (((ji8)).toNat * 7)).off + 6, none⟩ = some (.int .i64 ((rd_T48 l0 (ji8)).f6)) ∧ w'.cell? (ad305.add ((x4_1).toNat * 7)) = some (.int .i64 ((rd_T48 l0 x4_1).f0)) ∧ w'.cell? ⟨(ad305.add ((x4_1).toNat * 7)).block, (ad305.add ((x4_1).toNat * 7)).off + 1, none⟩ = some (.int .i64 ((rd_T48 l0 x4_1).f1)) ∧ w'.cell? ⟨(ad305.add ((x4_1).toNat * 7)).block, (ad305.add ((x4_1).toNat * 7)).off + 2, none⟩ = some (.int .i64 ((rd_T48 l0 x4_1).f2)) ∧ w'.cell? ⟨(ad305.add ((x4_1).toNat * 7)).block, (ad305.add ((x4_1).toNat * 7)).off + 3, none⟩ = some (.int .i64 ((rd_T48 l0 x4_1).f3)) ∧ w'.cell? ⟨(ad305.add ((x4_1).toNat * 7)).block, (ad305.add ((x4_1).toNat * 7)).off + 4, none⟩ = some (.int .i64 ((rd_T48 l0 x4_1).f4)) ∧ w'.cell? ⟨(ad305.add ((x4_1).toNat * 7)).block, (ad305.add ((x4_1).toNat * 7)).off + 5, none⟩ = some (.string ((rd_T48 l0 x4_1).f5)) ∧ w'.cell? ⟨(ad305.add ((x4_1).toNat * 7)).block, (ad305.add ((x4_1).toNat * 7)).off + 6, none⟩ = some (.int .i64 ((rd_T48 l0 x4_1).f6))) (ds := []) (bsq 0 45) (by kernel_rfl) rfl rfl ⟨((HB.out.cell (World.block_lt_of_cell? w _ hw305_0)).trans hw305_0), ((HB.out.cell (World.block_lt_of_cell? w _ hw305_1)).trans hw305_1), ((HB.out.cell (World.block_lt_of_cell? w _ hw305_2)).trans hw305_2), ((HB.out.cell (World.block_lt_of_cell? w _ hw305_3)).trans hw305_3), ((HB.out.cell (World.block_lt_of_cell? w _ hw305_4)).trans hw305_4), ((HB.out.cell (World.block_lt_of_cell? w _ hw305_5)).trans hw305_5), ((HB.out.cell (World.block_lt_of_cell? w _ hw305_6)).trans hw305_6), ((HB.out.cell (World.block_lt_of_cell? w _ hw307_0)).trans hw307_0), ((HB.out.cell (World.block_lt_of_cell? w _ hw307_1)).trans hw307_1), ((HB.out.cell (World.block_lt_of_cell? w _ hw307_2)).trans hw307_2), ((HB.out.cell (World.block_lt_of_cell? w _ hw307_3)).trans hw307_3), ((HB.out.cell (World.block_lt_of_cell? w _ hw307_4)).trans hw307_4), ((HB.out.cell (World.block_lt_of_cell? w _ hw307_5)).trans hw307_5), ((HB.out.cell (World.block_lt_of_cell? w _ hw307_6)).trans hw307_6), ((HB.out.cell (World.block_lt_of_cell? w _ hw309_0)).trans hw309_0), ((HB.out.cell (World.block_lt_of_cell? w _ hw309_1)).trans hw309_1), ((HB.out.cell (World.block_lt_of_cell? w _ hw309_2)).trans hw309_2), ((HB.out.cell (World.block_lt_of_cell? w _ hw309_3)).trans hw309_3), ((HB.out.cell (World.block_lt_of_cell? w _ hw309_4)).trans hw309_4), ((HB.out.cell (World.block_lt_of_cell? w _ hw309_5)).trans hw309_5), ((HB.out.cell (World.block_lt_of_cell? w _ hw309_6)).trans hw309_6), ((HB.out.cell (World.block_lt_of_cell? w _ hw310_0)).trans hw310_0), ((HB.out.cell (World.block_lt_of_cell? w _ hw310_1)).trans hw310_1), ((HB.out.cell (World.block_lt_of_cell? w _ hw310_2)).trans hw310_2), ((HB.out.cell (World.block_lt_of_cell? w _ hw310_3)).trans hw310_3), ((HB.out.cell (World.block_lt_of_cell? w _ hw310_4)).trans hw310_4), ((HB.out.cell (World.block_lt_of_cell? w _ hw310_5)).trans hw310_5), ((HB.out.cell (World.block_lt_of_cell? w _ hw310_6)).trans hw310_6), ((HB.out.cell (World.block_lt_of_cell? w _ hw311_0)).trans hw311_0), ((HB.out.cell (World.block_lt_of_cell? w _ hw311_1)).trans hw311_1), ((HB.out.cell (World.block_lt_of_cell? w _ hw311_2)).trans hw311_2), ((HB.out.cell (World.block_lt_of_cell? w _ hw311_3)).trans hw311_3), ((HB.out.cell (World.block_lt_of_cell? w _ hw311_4)).trans hw311_4), ((HB.out.cell (World.block_lt_of_cell? w _ hw311_5)).trans hw311_5), ((HB.out.cell (World.block_lt_of_cell? w _ hw311_6)).trans hw311_6), ((HB.out.cell (World.block_lt_of_cell? w _ hw312_0)).trans hw312_0), ((HB.out.cell (World.block_lt_of_cell? w _ hw312_1)).trans hw312_1), ((HB.out.cell (World.block_lt_of_cell? w _ hw312_2)).trans hw312_2), ((HB.out.cell (World.block_lt_of_cell? w _ hw312_3)).trans hw312_3), ((HB.out.cell (World.block_lt_of_cell? w _ hw312_4)).trans hw312_4), ((HB.out.cell (World.block_lt_of_cell? w _ hw312_5)).trans hw312_5), ((HB.out.cell (World.block_lt_of_cell? w _ hw312_6)).trans hw312_6)⟩ (fun hHeld => ?_); refine with_tabW signalbenchref14_Merge.tab5 signalbenchref14_Merge.bits5 (fun HT_ HW_ => ?_)
                generalize wr.drew = w22 at HO_3 HB hx305_0 hx305_1 hx305_2 hx305_3 hx305_4 hx305_5 hx305_6 hx307_0 hx307_1 hx307_2 hx307_3 hx307_4 hx307_5 hx307_6 hx309_0 hx309_1 hx309_2 hx309_3 hx309_4 hx309_5 hx309_6 hx310_0 hx310_1 hx310_2 hx310_3 hx310_4 hx310_5 hx310_6 hx311_0 hx311_1 hx311_2 hx311_3 hx311_4 hx311_5 hx311_6 hx312_0 hx312_1 hx312_2 hx312_3 hx312_4 hx312_5 hx312_6 hHeld ⊢
                refine pu 0 14 (bsq 1 44) ?_
                refine pu 1 15 (bsq 2 43) ?_
                refine pu 2 16 (bsq 3 42) ?_
                refine pu 3 17 (bsq 4 41) ?_
                refine pu 4 18 (bsq 5 40) ?_
                refine pu 5 19 (bsq 6 39) ?_
                refine pu 6 20 (bsq 7 38) ?_
                refine tk 7 21 (bsq 8 37) hHeld ?_ (he := by rintro w' ⟨s0, s1, s2, s3, s4, s5, s6, s7, s8, s9, s10, s11, s12, s13, s14, s15, s16, s17, s18, s19, s20, s21, s22, s23, s24, s25, s26, s27, s28, s29, s30, s31, s32, s33, s34, s35, s36, s37, s38, s39, s40, s41⟩; go_simp; with_reducible rfl)
                refine one_ (i := 8) (N := some 22) (bsq 9 36) rfl rfl (one_of HT_.out (by kernel_rfl)) (by decide) (fun K hK => ?_)
                refine goes_ Try.func31 (by kernel_rfl) rfl #[.agg #[.int .i64 ((rd_T48 l0 (ji8)).f0), .int .i64 ((rd_T48 l0 (ji8)).f1), .int .i64 ((rd_T48 l0 (ji8)).f2), .int .i64 ((rd_T48 l0 (ji8)).f3), .int .i64 ((rd_T48 l0 (ji8)).f4), .string ((rd_T48 l0 (ji8)).f5), .int .i64 ((rd_T48 l0 (ji8)).f6)]] (by rfl) rfl rfl (by (try simp only [List.map_toArray, List.map_cons, List.map_nil]); first | done | (simp only [hji8]; rfl) | rfl | (simp only [List.length_drop, List.length_take]; rfl)) ?_
                with_reducible refine (signalbenchref14_Plain.calls ((rd_T48 l0 (ji8)).f0) ((rd_T48 l0 (ji8)).f1) ((rd_T48 l0 (ji8)).f2) ((rd_T48 l0 (ji8)).f3) ((rd_T48 l0 (ji8)).f4) ((rd_T48 l0 (ji8)).f5) ((rd_T48 l0 (ji8)).f6) true _ A11.out).mono ?_
                rintro e w23 ⟨rfl, hb⟩
                refine ⟨_, rfl, ?_⟩
                have n0_ := Aside0.mk (Kd.R_below (rq HO_3.out) hb)
                have n1_ := Aside0.mk (below_step (bs HB.out) hb)
                clear HO_3
                clear HB
                have HO_3 := n0_
                have HB := n1_
                clear n0_ n1_
                (try clear hb)
                (try clear hb2)
                (try clear hk)
                (try clear hi)
                refine hK.out _ _ ⟨((HB.out.cell (World.block_lt_of_cell? w _ hw305_0)).trans hw305_0), ((HB.out.cell (World.block_lt_of_cell? w _ hw305_1)).trans hw305_1), ((HB.out.cell (World.block_lt_of_cell? w _ hw305_2)).trans hw305_2), ((HB.out.cell (World.block_lt_of_cell? w _ hw305_3)).trans hw305_3), ((HB.out.cell (World.block_lt_of_cell? w _ hw305_4)).trans hw305_4), ((HB.out.cell (World.block_lt_of_cell? w _ hw305_5)).trans hw305_5), ((HB.out.cell (World.block_lt_of_cell? w _ hw305_6)).trans hw305_6), ((HB.out.cell (World.block_lt_of_cell? w _ hw307_0)).trans hw307_0), ((HB.out.cell (World.block_lt_of_cell? w _ hw307_1)).trans hw307_1), ((HB.out.cell (World.block_lt_of_cell? w _ hw307_2)).trans hw307_2), ((HB.out.cell (World.block_lt_of_cell? w _ hw307_3)).trans hw307_3), ((HB.out.cell (World.block_lt_of_cell? w _ hw307_4)).trans hw307_4), ((HB.out.cell (World.block_lt_of_cell? w _ hw307_5)).trans hw307_5), ((HB.out.cell (World.block_lt_of_cell? w _ hw307_6)).trans hw307_6), ((HB.out.cell (World.block_lt_of_cell? w _ hw309_0)).trans hw309_0), ((HB.out.cell (World.block_lt_of_cell? w _ hw309_1)).trans hw309_1), ((HB.out.cell (World.block_lt_of_cell? w _ hw309_2)).trans hw309_2), ((HB.out.cell (World.block_lt_of_cell? w _ hw309_3)).trans hw309_3), ((HB.out.cell (World.block_lt_of_cell? w _ hw309_4)).trans hw309_4), ((HB.out.cell (World.block_lt_of_cell? w _ hw309_5)).trans hw309_5), ((HB.out.cell (World.block_lt_of_cell? w _ hw309_6)).trans hw309_6), ((HB.out.cell (World.block_lt_of_cell? w _ hw310_0)).trans hw310_0), ((HB.out.cell (World.block_lt_of_cell? w _ hw310_1)).trans hw310_1), ((HB.out.cell (World.block_lt_of_cell? w _ hw310_2)).trans hw310_2), ((HB.out.cell (World.block_lt_of_cell? w _ hw310_3)).trans hw310_3), ((HB.out.cell (World.block_lt_of_cell? w _ hw310_4)).trans hw310_4), ((HB.out.cell (World.block_lt_of_cell? w _ hw310_5)).trans hw310_5), ((HB.out.cell (World.block_lt_of_cell? w _ hw310_6)).trans hw310_6), ((HB.out.cell (World.block_lt_of_cell? w _ hw311_0)).trans hw311_0), ((HB.out.cell (World.block_lt_of_cell? w _ hw311_1)).trans hw311_1), ((HB.out.cell (World.block_lt_of_cell? w _ hw311_2)).trans hw311_2), ((HB.out.cell (World.block_lt_of_cell? w _ hw311_3)).trans hw311_3), ((HB.out.cell (World.block_lt_of_cell? w _ hw311_4)).trans hw311_4), ((HB.out.cell (World.block_lt_of_cell? w _ hw311_5)).trans hw311_5), ((HB.out.cell (World.block_lt_of_cell? w _ hw311_6)).trans hw311_6), ((HB.out.cell (World.block_lt_of_cell? w _ hw312_0)).trans hw312_0), ((HB.out.cell (World.block_lt_of_cell? w _ hw312_1)).trans hw312_1), ((HB.out.cell (World.block_lt_of_cell? w _ hw312_2)).trans hw312_2), ((HB.out.cell (World.block_lt_of_cell? w _ hw312_3)).trans hw312_3), ((HB.out.cell (World.block_lt_of_cell? w _ hw312_4)).trans hw312_4), ((HB.out.cell (World.block_lt_of_cell? w _ hw312_5)).trans hw312_5), ((HB.out.cell (World.block_lt_of_cell? w _ hw312_6)).trans hw312_6)⟩ (fun hHeld => ?_)
                clear hK K
                refine norm_ (a' := ?_) ?_ ?_
                rotate_left
                ·
                 show Act.put _ (some 22) _ = _
                 simp only [Act.put, List.setIfInBounds_toArray, List.set_cons_zero, List.set_cons_succ, i64_w, i32_w]
                 rfl
                refine pu 9 23 (bsq 10 35) ?_
                refine pu 10 24 (bsq 11 34) ?_
                refine pu 11 25 (bsq 12 33) ?_
                refine pu 12 26 (bsq 13 32) ?_
                refine pu 13 27 (bsq 14 31) ?_
                refine tk 14 28 (bsq 15 30) hHeld ?_ (he := by rintro w' ⟨s0, s1, s2, s3, s4, s5, s6, s7, s8, s9, s10, s11, s12, s13, s14, s15, s16, s17, s18, s19, s20, s21, s22, s23, s24, s25, s26, s27, s28, s29, s30, s31, s32, s33, s34, s35, s36, s37, s38, s39, s40, s41⟩; go_simp; with_reducible rfl)
                refine one_ (i := 15) (N := some 29) (bsq 16 29) rfl rfl (one_of HT_.out (by kernel_rfl)) (by decide) (fun K hK => ?_)
                refine goes_ Try.func31 (by kernel_rfl) rfl #[.agg #[.int .i64 ((rd_T48 l0 x4_1).f0), .int .i64 ((rd_T48 l0 x4_1).f1), .int .i64 ((rd_T48 l0 x4_1).f2), .int .i64 ((rd_T48 l0 x4_1).f3), .int .i64 ((rd_T48 l0 x4_1).f4), .string ((rd_T48 l0 x4_1).f5), .int .i64 ((rd_T48 l0 x4_1).f6)]] (by rfl) rfl rfl (by (try simp only [List.map_toArray, List.map_cons, List.map_nil]); first | done | rfl | (simp only [List.length_drop, List.length_take]; rfl)) ?_
                with_reducible refine (signalbenchref14_Plain.calls ((rd_T48 l0 x4_1).f0) ((rd_T48 l0 x4_1).f1) ((rd_T48 l0 x4_1).f2) ((rd_T48 l0 x4_1).f3) ((rd_T48 l0 x4_1).f4) ((rd_T48 l0 x4_1).f5) ((rd_T48 l0 x4_1).f6) true _ A14.out).mono ?_
                rintro e w24 ⟨rfl, hb⟩
                refine ⟨_, rfl, ?_⟩
                have n0_ := Aside0.mk (Kd.R_below (rq HO_3.out) hb)
                have n1_ := Aside0.mk (below_step (bs HB.out) hb)
                clear HO_3
                clear HB
                have HO_3 := n0_
                have HB := n1_
                clear n0_ n1_
                (try clear hb)
                (try clear hb2)
                (try clear hk)
                (try clear hi)
                refine hK.out _ _ ⟨((HB.out.cell (World.block_lt_of_cell? w _ hw305_0)).trans hw305_0), ((HB.out.cell (World.block_lt_of_cell? w _ hw305_1)).trans hw305_1), ((HB.out.cell (World.block_lt_of_cell? w _ hw305_2)).trans hw305_2), ((HB.out.cell (World.block_lt_of_cell? w _ hw305_3)).trans hw305_3), ((HB.out.cell (World.block_lt_of_cell? w _ hw305_4)).trans hw305_4), ((HB.out.cell (World.block_lt_of_cell? w _ hw305_5)).trans hw305_5), ((HB.out.cell (World.block_lt_of_cell? w _ hw305_6)).trans hw305_6), ((HB.out.cell (World.block_lt_of_cell? w _ hw307_0)).trans hw307_0), ((HB.out.cell (World.block_lt_of_cell? w _ hw307_1)).trans hw307_1), ((HB.out.cell (World.block_lt_of_cell? w _ hw307_2)).trans hw307_2), ((HB.out.cell (World.block_lt_of_cell? w _ hw307_3)).trans hw307_3), ((HB.out.cell (World.block_lt_of_cell? w _ hw307_4)).trans hw307_4), ((HB.out.cell (World.block_lt_of_cell? w _ hw307_5)).trans hw307_5), ((HB.out.cell (World.block_lt_of_cell? w _ hw307_6)).trans hw307_6), ((HB.out.cell (World.block_lt_of_cell? w _ hw309_0)).trans hw309_0), ((HB.out.cell (World.block_lt_of_cell? w _ hw309_1)).trans hw309_1), ((HB.out.cell (World.block_lt_of_cell? w _ hw309_2)).trans hw309_2), ((HB.out.cell (World.block_lt_of_cell? w _ hw309_3)).trans hw309_3), ((HB.out.cell (World.block_lt_of_cell? w _ hw309_4)).trans hw309_4), ((HB.out.cell (World.block_lt_of_cell? w _ hw309_5)).trans hw309_5), ((HB.out.cell (World.block_lt_of_cell? w _ hw309_6)).trans hw309_6), ((HB.out.cell (World.block_lt_of_cell? w _ hw310_0)).trans hw310_0), ((HB.out.cell (World.block_lt_of_cell? w _ hw310_1)).trans hw310_1), ((HB.out.cell (World.block_lt_of_cell? w _ hw310_2)).trans hw310_2), ((HB.out.cell (World.block_lt_of_cell? w _ hw310_3)).trans hw310_3), ((HB.out.cell (World.block_lt_of_cell? w _ hw310_4)).trans hw310_4), ((HB.out.cell (World.block_lt_of_cell? w _ hw310_5)).trans hw310_5), ((HB.out.cell (World.block_lt_of_cell? w _ hw310_6)).trans hw310_6), ((HB.out.cell (World.block_lt_of_cell? w _ hw311_0)).trans hw311_0), ((HB.out.cell (World.block_lt_of_cell? w _ hw311_1)).trans hw311_1), ((HB.out.cell (World.block_lt_of_cell? w _ hw311_2)).trans hw311_2), ((HB.out.cell (World.block_lt_of_cell? w _ hw311_3)).trans hw311_3), ((HB.out.cell (World.block_lt_of_cell? w _ hw311_4)).trans hw311_4), ((HB.out.cell (World.block_lt_of_cell? w _ hw311_5)).trans hw311_5), ((HB.out.cell (World.block_lt_of_cell? w _ hw311_6)).trans hw311_6), ((HB.out.cell (World.block_lt_of_cell? w _ hw312_0)).trans hw312_0), ((HB.out.cell (World.block_lt_of_cell? w _ hw312_1)).trans hw312_1), ((HB.out.cell (World.block_lt_of_cell? w _ hw312_2)).trans hw312_2), ((HB.out.cell (World.block_lt_of_cell? w _ hw312_3)).trans hw312_3), ((HB.out.cell (World.block_lt_of_cell? w _ hw312_4)).trans hw312_4), ((HB.out.cell (World.block_lt_of_cell? w _ hw312_5)).trans hw312_5), ((HB.out.cell (World.block_lt_of_cell? w _ hw312_6)).trans hw312_6)⟩ (fun hHeld => ?_)
                clear hK K
                refine norm_ (a' := ?_) ?_ ?_
                rotate_left
                ·
                 show Act.put _ (some 29) _ = _
                 simp only [Act.put, List.setIfInBounds_toArray, List.set_cons_zero, List.set_cons_succ, i64_w, i32_w]
                 rfl
                refine pu 16 30 (bsq 17 28) ?_
                refine pu 17 31 (bsq 18 27) ?_
                refine pu 18 32 (bsq 19 26) ?_
                refine pu 19 33 (bsq 20 25) ?_
                refine pu 20 34 (bsq 21 24) ?_
                refine pu 21 35 (bsq 22 23) ?_
                refine pu 22 36 (bsq 23 22) ?_
                refine pu 24 38 (bls [23, 1, 1, 20]) ?_
                refine pu 25 39 (bls [23, 1, 2, 19]) ?_
                refine pu 26 40 (bls [23, 1, 3, 18]) ?_
                refine pu 27 41 (bls [23, 1, 4, 17]) ?_
                refine tk 23 37 (bsq 28 17) hHeld ?_ (he := by rintro w' ⟨s0, s1, s2, s3, s4, s5, s6, s7, s8, s9, s10, s11, s12, s13, s14, s15, s16, s17, s18, s19, s20, s21, s22, s23, s24, s25, s26, s27, s28, s29, s30, s31, s32, s33, s34, s35, s36, s37, s38, s39, s40, s41⟩; go_simp; with_reducible rfl)
                refine tk 28 42 (bsq 29 16) hHeld ?_ (he := by rintro w' ⟨s0, s1, s2, s3, s4, s5, s6, s7, s8, s9, s10, s11, s12, s13, s14, s15, s16, s17, s18, s19, s20, s21, s22, s23, s24, s25, s26, s27, s28, s29, s30, s31, s32, s33, s34, s35, s36, s37, s38, s39, s40, s41⟩; go_simp; with_reducible rfl)
                refine pu 29 43 (bsq 30 15) ?_
                refine pu 30 44 (bsq 31 14) ?_
                refine pu 31 45 (bsq 32 13) ?_
                refine pu 32 46 (bsq 33 12) ?_
                refine pu 33 47 (bsq 34 11) ?_
                refine pu 34 48 (bsq 35 10) ?_
                refine pu 35 49 (bsq 36 9) ?_
                refine pu 36 50 (bsq 37 8) ?_
                refine pu 38 52 (bls [37, 1, 1, 6]) ?_
                refine pu 39 53 (bls [37, 1, 2, 5]) ?_
                refine pu 40 54 (bls [37, 1, 3, 4]) ?_
                refine pu 41 55 (bls [37, 1, 4, 3]) ?_
                refine tk 37 51 (bsq 42 3) hHeld ?_ (he := by rintro w' ⟨s0, s1, s2, s3, s4, s5, s6, s7, s8, s9, s10, s11, s12, s13, s14, s15, s16, s17, s18, s19, s20, s21, s22, s23, s24, s25, s26, s27, s28, s29, s30, s31, s32, s33, s34, s35, s36, s37, s38, s39, s40, s41⟩; go_simp; with_reducible rfl)
                refine tk 42 56 (bsq 43 2) hHeld ?_ (he := by rintro w' ⟨s0, s1, s2, s3, s4, s5, s6, s7, s8, s9, s10, s11, s12, s13, s14, s15, s16, s17, s18, s19, s20, s21, s22, s23, s24, s25, s26, s27, s28, s29, s30, s31, s32, s33, s34, s35, s36, s37, s38, s39, s40, s41⟩; go_simp; with_reducible rfl)
                refine pu 43 57 (bsq 44 1) ?_
                refine pu 44 58 (bsq 45 0) ?_
                refine done_ (done_of HT_.out (by kernel_rfl)) ?_
                obtain ⟨Ao25, co25, eo25⟩ := Kd.R_slice HO_3.out
                subst eo25
                have p313 : 0 ≤ (x4_1 : Int) := of_decide_eq_true (by first | (with_reducible assumption) | assumption)
                have q313 : x4_1 < (l0.length : Int) := of_decide_eq_true (by first | (with_reducible assumption) | assumption)
                obtain ⟨ad313, e313, hx313_0, hx313_1, hx313_2, hx313_3, hx313_4, hx313_5, hx313_6⟩ := at_T48 HR0.out x4_1 p313 q313
                obtain rfl : ad305 = ad313 := (by injection e313)
                replace hx313_0 := pw_cell_below HB.out hx313_0
                replace hx313_1 := pw_cell_below HB.out hx313_1
                replace hx313_2 := pw_cell_below HB.out hx313_2
                replace hx313_3 := pw_cell_below HB.out hx313_3
                replace hx313_4 := pw_cell_below HB.out hx313_4
                replace hx313_5 := pw_cell_below HB.out hx313_5
                replace hx313_6 := pw_cell_below HB.out hx313_6
                replace p313 := eq_true p313
                replace q313 := eq_true q313
                have p21 : 0 ≤ ((ji18) : Int) := of_decide_eq_true (by first | (with_reducible assumption) | assumption)
                have q21 : ((ji18) : Int) < ((x3_1.length : Int) : Int) := of_decide_eq_true (by first | (with_reducible assumption) | assumption)
                obtain ⟨go21, co21, eo21, gb21, gl21, cl21, HG21⟩ := Kd.R_form HO_3.out (by omega)
                (first | cases eo21 | (injection eo21 with ea_ en_ ec_; (first | subst ea_ | (injection ea_ with ea_; subst ea_)); subst ec_; clear en_))
                have GB21 := Aside0.mk gb21
                have GG21 := Aside0.mk HG21
                clear gb21 gl21 HG21
                obtain ⟨ce21, hcl21, hM21, hcc21, hfr21⟩ := Kd.R_elem HO_3.out z48 ((ji18) : Int) p21 q21
                obtain rfl := k48_openM hM21
                have hx21_0 : w24.cell? ⟨go21, ((ji18) : Int).toNat * 7, none⟩ = some (.int .i64 ((rd_T48 x3_1 (ji18)).f0)) := hcc21 0 _ rfl
                have hx21_1 : w24.cell? ⟨go21, ((ji18) : Int).toNat * 7 + 1, none⟩ = some (.int .i64 ((rd_T48 x3_1 (ji18)).f1)) := hcc21 1 _ rfl
                have hx21_2 : w24.cell? ⟨go21, ((ji18) : Int).toNat * 7 + 2, none⟩ = some (.int .i64 ((rd_T48 x3_1 (ji18)).f2)) := hcc21 2 _ rfl
                have hx21_3 : w24.cell? ⟨go21, ((ji18) : Int).toNat * 7 + 3, none⟩ = some (.int .i64 ((rd_T48 x3_1 (ji18)).f3)) := hcc21 3 _ rfl
                have hx21_4 : w24.cell? ⟨go21, ((ji18) : Int).toNat * 7 + 4, none⟩ = some (.int .i64 ((rd_T48 x3_1 (ji18)).f4)) := hcc21 4 _ rfl
                have hx21_5 : w24.cell? ⟨go21, ((ji18) : Int).toNat * 7 + 5, none⟩ = some (.string ((rd_T48 x3_1 (ji18)).f5)) := hcc21 5 _ rfl
                have hx21_6 : w24.cell? ⟨go21, ((ji18) : Int).toNat * 7 + 6, none⟩ = some (.int .i64 ((rd_T48 x3_1 (ji18)).f6)) := hcc21 6 _ rfl
                have hf21_0 : w24.frozen? ⟨go21, ((ji18) : Int).toNat * 7, none⟩ = false := hfr21 0
                have hf21_1 : w24.frozen? ⟨go21, ((ji18) : Int).toNat * 7 + 1, none⟩ = false := hfr21 1
                have hf21_2 : w24.frozen? ⟨go21, ((ji18) : Int).toNat * 7 + 2, none⟩ = false := hfr21 2
                have hf21_3 : w24.frozen? ⟨go21, ((ji18) : Int).toNat * 7 + 3, none⟩ = false := hfr21 3
                have hf21_4 : w24.frozen? ⟨go21, ((ji18) : Int).toNat * 7 + 4, none⟩ = false := hfr21 4
                have hf21_5 : w24.frozen? ⟨go21, ((ji18) : Int).toNat * 7 + 5, none⟩ = false := hfr21 5
                have hf21_6 : w24.frozen? ⟨go21, ((ji18) : Int).toNat * 7 + 6, none⟩ = false := hfr21 6
                clear hcl21 hcc21 hfr21; (try clear hM21)
                replace p21 := eq_true p21
                replace q21 := eq_true q21
                have HX26 := Aside0.mk (show Kd.R k48 48 w24 w.heap.size (fun _ => True) (.slice (some ⟨go21, 0, none⟩) x3_1.length co25) x3_1 from (rq HO_3.out))
                obtain ⟨ce26, hcl26, hM26, hcc26, hfr26⟩ := Kd.R_elem HX26.out z48 ((ji18) : Int) (of_decide_eq_true (by first | (with_reducible assumption) | assumption)) (by have h_ : ((ji18) : Int) < ((x3_1.length : Int) : Int) := of_decide_eq_true (by first | (with_reducible assumption) | assumption); first | exact h_ | (have e_ := (Kd.R_reads' HO_3.out).1; omega) | simpa using h_)
                obtain rfl := k48_openM hM26
                have HP26 := Kd.R_seg HX26.out ((ji18) : Int) (of_decide_eq_true (by first | (with_reducible assumption) | assumption)) (by have h_ : ((ji18) : Int) < ((x3_1.length : Int) : Int) := of_decide_eq_true (by first | (with_reducible assumption) | assumption); first | exact h_ | (have e_ := (Kd.R_reads' HO_3.out).1; omega) | simpa using h_) (seg := [.int .i64 ((rd_T48 l0 x4_1).f2)]) (j := 2) hcl26 hcc26 (show 3 ≤ 7 from by decide) (x' := (⟨(rd_T48 x3_1 (ji18)).f0, (rd_T48 x3_1 (ji18)).f1, (rd_T48 l0 x4_1).f2, (rd_T48 x3_1 (ji18)).f3, (rd_T48 x3_1 (ji18)).f4, (rd_T48 x3_1 (ji18)).f5, (rd_T48 x3_1 (ji18)).f6⟩ : S48)) (k48_mkM _ _ _ (⟨(rd_T48 x3_1 (ji18)).f0, (rd_T48 x3_1 (ji18)).f1, (rd_T48 l0 x4_1).f2, (rd_T48 x3_1 (ji18)).f3, (rd_T48 x3_1 (ji18)).f4, (rd_T48 x3_1 (ji18)).f5, (rd_T48 x3_1 (ji18)).f6⟩ : S48) ) (fun _ hk => hk)
                have hx26_2 := hcc26 2 _ rfl
                (try simp only [show (k48).sz = 7 from rfl, Nat.mul_one, Nat.add_zero] at hx26_2)
                have hf26_2 := hfr26 2
                (try simp only [show (k48).sz = 7 from rfl, Nat.mul_one, Nat.add_zero] at hf26_2)
                clear hcl26 hcc26 hfr26; (try clear hM26)
                try go_wp2_with (first | ((with_reducible refine gate_store (t := 3) (p := 69) rfl ?_); refine store_event (t := 3) (p := 69) (v := ?vo_w27) (w1 := (w24.setCell ⟨go21, ((ji18) : Int).toNat * 7 + 2, none⟩ (.int .i64 ((rd_T48 l0 x4_1).f2)))) ?hg ?ho ?hn ?hr ?_; (case ho => rfl); (case hg => rfl); (case hn => rfl); (case hr => first | (go_simp; done) | (go_simp; rfl)); intro w27 hw; have hg : w24.grownBy w27 (some go21) := (by rw [hw]; exact HP26.2); have hp_ : Kd.R k48 48 w27 w.heap.size (fun _ => True) (.slice (some ⟨go21, 0, none⟩) x3_1.length co25) y314 := (by rw [hw, Ny314.out]; exact HP26.1); clear HP26; have n0_ := Aside0.mk (hp_); have n1_ := Aside0.mk ((by rw [hw]; exact below_set (HB.out) GB21.out : Below w.heap.size w w27)); clear HO_3; clear HB; have HO_3 := n0_; have HB := n1_; clear n0_ n1_; clear hg hw hp_))
                go_roundg k1
                case measure => have := HK1.out; omega
                case rel => exact ⟨(y314), (wrap64 (x4_1 + 1)), (by first | rfl | (simp; done) | (simp [*]; done)), H', ⟨by have := HK1.out; omega⟩, ⟨by (with_reducible repeat (first | apply Kd.R_alloc | apply Kd.R_drewN | apply Kd.R_drew)); exact HO_3.out⟩, ⟨bs HB.out⟩⟩
               ·
                rw [if_neg c20] at H
                exact absurd H (by simp)
              ·
               rw [if_neg c19] at H
               exact absurd H (by simp)
             ·
              rw [if_neg c17] at H
              have c17b0 : (((rd_T48 l0 (ji8)).f2) == ((rd_T48 l0 x4_1).f1)) = false := beq_eq_false_iff_ne.mpr c17
              have c17b1 : (((rd_T48 l0 (ji8)).f2) != ((rd_T48 l0 x4_1).f1)) = true := bne_iff_ne.mpr c17
              by_cases c28 : x3_1.length < 2199023255552
              ·
               rw [if_pos c28] at H
               have LMc28 := Aside0.mk c28
               clear c28
               obtain ⟨y316, hy316⟩ : ∃ y_ : List (S48), y_ = (x3_1 ++ [(⟨(rd_T48 l0 x4_1).f0, (rd_T48 l0 x4_1).f1, (rd_T48 l0 x4_1).f2, (rd_T48 l0 x4_1).f3, (rd_T48 l0 x4_1).f4, (rd_T48 l0 x4_1).f5, (rd_T48 l0 x4_1).f6⟩ : S48)]) := ⟨_, rfl⟩
               replace H : (signalbenchref14_Merge.l0 k1 l0 y316 (wrap64 (x4_1 + 1))) = some r := by first | (rw [hy316]; with_reducible exact H) | (have H2_ := (Option.bind_some _ _).symm.trans H; rw [hy316]; with_reducible exact H2_) | (have H2_ := (Option.bind_some _ _).symm.trans H; with_reducible exact H2_) | with_reducible exact H | (rw [hy316]; exact H) | exact H
               have Ny316 := Aside0.mk hy316
               clear hy316
               have H' := Aside0.mk H
               clear H
               try go_wp2
               have n0_ := Aside0.mk (Kd.R_drew HO_3.out)
               have n1_ := Aside0.mk (below_drew1 HB.out)
               clear HO_3
               clear HB
               have HO_3 := n0_
               have HB := n1_
               clear n0_ n1_
               have p305 : 0 ≤ ((ji8) : Int) := of_decide_eq_true (by first | (with_reducible assumption) | assumption)
               have q305 : (ji8) < (l0.length : Int) := of_decide_eq_true (by first | (with_reducible assumption) | assumption)
               obtain ⟨ad305, e305, hx305_0, hx305_1, hx305_2, hx305_3, hx305_4, hx305_5, hx305_6⟩ := at_T48 HR0.out (ji8) p305 q305
               have hw305_6 := hx305_6
               have hw305_5 := hx305_5
               have hw305_4 := hx305_4
               have hw305_3 := hx305_3
               have hw305_2 := hx305_2
               have hw305_1 := hx305_1
               have hw305_0 := hx305_0
               cases e305
               replace hx305_0 := pw_cell_below HB.out hx305_0
               replace hx305_1 := pw_cell_below HB.out hx305_1
               replace hx305_2 := pw_cell_below HB.out hx305_2
               replace hx305_3 := pw_cell_below HB.out hx305_3
               replace hx305_4 := pw_cell_below HB.out hx305_4
               replace hx305_5 := pw_cell_below HB.out hx305_5
               replace hx305_6 := pw_cell_below HB.out hx305_6
               replace p305 := eq_true p305
               replace q305 := eq_true q305
               have p307 : 0 ≤ (x4_1 : Int) := of_decide_eq_true (by first | (with_reducible assumption) | assumption)
               have q307 : x4_1 < (l0.length : Int) := of_decide_eq_true (by first | (with_reducible assumption) | assumption)
               obtain ⟨ad307, e307, hx307_0, hx307_1, hx307_2, hx307_3, hx307_4, hx307_5, hx307_6⟩ := at_T48 HR0.out x4_1 p307 q307
               have hw307_6 := hx307_6
               have hw307_5 := hx307_5
               have hw307_4 := hx307_4
               have hw307_3 := hx307_3
               have hw307_2 := hx307_2
               have hw307_1 := hx307_1
               have hw307_0 := hx307_0
               obtain rfl : ad305 = ad307 := (by injection e307)
               replace hx307_0 := pw_cell_below HB.out hx307_0
               replace hx307_1 := pw_cell_below HB.out hx307_1
               replace hx307_2 := pw_cell_below HB.out hx307_2
               replace hx307_3 := pw_cell_below HB.out hx307_3
               replace hx307_4 := pw_cell_below HB.out hx307_4
               replace hx307_5 := pw_cell_below HB.out hx307_5
               replace hx307_6 := pw_cell_below HB.out hx307_6
               replace p307 := eq_true p307
               replace q307 := eq_true q307
               have p309 : 0 ≤ ((ji8) : Int) := of_decide_eq_true (by first | (with_reducible assumption) | assumption)
               have q309 : (ji8) < (l0.length : Int) := of_decide_eq_true (by first | (with_reducible assumption) | assumption)
               obtain ⟨ad309, e309, hx309_0, hx309_1, hx309_2, hx309_3, hx309_4, hx309_5, hx309_6⟩ := at_T48 HR0.out (ji8) p309 q309
               have hw309_6 := hx309_6
               have hw309_5 := hx309_5
               have hw309_4 := hx309_4
               have hw309_3 := hx309_3
               have hw309_2 := hx309_2
               have hw309_1 := hx309_1
               have hw309_0 := hx309_0
               obtain rfl : ad305 = ad309 := (by injection e309)
               replace hx309_0 := pw_cell_below HB.out hx309_0
               replace hx309_1 := pw_cell_below HB.out hx309_1
               replace hx309_2 := pw_cell_below HB.out hx309_2
               replace hx309_3 := pw_cell_below HB.out hx309_3
               replace hx309_4 := pw_cell_below HB.out hx309_4
               replace hx309_5 := pw_cell_below HB.out hx309_5
               replace hx309_6 := pw_cell_below HB.out hx309_6
               replace p309 := eq_true p309
               replace q309 := eq_true q309
               have p310 : 0 ≤ (x4_1 : Int) := of_decide_eq_true (by first | (with_reducible assumption) | assumption)
               have q310 : x4_1 < (l0.length : Int) := of_decide_eq_true (by first | (with_reducible assumption) | assumption)
               obtain ⟨ad310, e310, hx310_0, hx310_1, hx310_2, hx310_3, hx310_4, hx310_5, hx310_6⟩ := at_T48 HR0.out x4_1 p310 q310
               have hw310_6 := hx310_6
               have hw310_5 := hx310_5
               have hw310_4 := hx310_4
               have hw310_3 := hx310_3
               have hw310_2 := hx310_2
               have hw310_1 := hx310_1
               have hw310_0 := hx310_0
               obtain rfl : ad305 = ad310 := (by injection e310)
               replace hx310_0 := pw_cell_below HB.out hx310_0
               replace hx310_1 := pw_cell_below HB.out hx310_1
               replace hx310_2 := pw_cell_below HB.out hx310_2
               replace hx310_3 := pw_cell_below HB.out hx310_3
               replace hx310_4 := pw_cell_below HB.out hx310_4
               replace hx310_5 := pw_cell_below HB.out hx310_5
               replace hx310_6 := pw_cell_below HB.out hx310_6
               replace p310 := eq_true p310
               replace q310 := eq_true q310
               have p311 : 0 ≤ ((ji8) : Int) := of_decide_eq_true (by first | (with_reducible assumption) | assumption)
               have q311 : (ji8) < (l0.length : Int) := of_decide_eq_true (by first | (with_reducible assumption) | assumption)
               obtain ⟨ad311, e311, hx311_0, hx311_1, hx311_2, hx311_3, hx311_4, hx311_5, hx311_6⟩ := at_T48 HR0.out (ji8) p311 q311
               have hw311_6 := hx311_6
               have hw311_5 := hx311_5
               have hw311_4 := hx311_4
               have hw311_3 := hx311_3
               have hw311_2 := hx311_2
               have hw311_1 := hx311_1
               have hw311_0 := hx311_0
               obtain rfl : ad305 = ad311 := (by injection e311)
               replace hx311_0 := pw_cell_below HB.out hx311_0
               replace hx311_1 := pw_cell_below HB.out hx311_1
               replace hx311_2 := pw_cell_below HB.out hx311_2
               replace hx311_3 := pw_cell_below HB.out hx311_3
               replace hx311_4 := pw_cell_below HB.out hx311_4
               replace hx311_5 := pw_cell_below HB.out hx311_5
               replace hx311_6 := pw_cell_below HB.out hx311_6
               replace p311 := eq_true p311
               replace q311 := eq_true q311
               have p312 : 0 ≤ (x4_1 : Int) := of_decide_eq_true (by first | (with_reducible assumption) | assumption)
               have q312 : x4_1 < (l0.length : Int) := of_decide_eq_true (by first | (with_reducible assumption) | assumption)
               obtain ⟨ad312, e312, hx312_0, hx312_1, hx312_2, hx312_3, hx312_4, hx312_5, hx312_6⟩ := at_T48 HR0.out x4_1 p312 q312
               have hw312_6 := hx312_6
               have hw312_5 := hx312_5
               have hw312_4 := hx312_4
               have hw312_3 := hx312_3
               have hw312_2 := hx312_2
               have hw312_1 := hx312_1
               have hw312_0 := hx312_0
               obtain rfl : ad305 = ad312 := (by injection e312)
               replace hx312_0 := pw_cell_below HB.out hx312_0
               replace hx312_1 := pw_cell_below HB.out hx312_1
               replace hx312_2 := pw_cell_below HB.out hx312_2
               replace hx312_3 := pw_cell_below HB.out hx312_3
               replace hx312_4 := pw_cell_below HB.out hx312_4
               replace hx312_5 := pw_cell_below HB.out hx312_5
               replace hx312_6 := pw_cell_below HB.out hx312_6
               replace p312 := eq_true p312
               replace q312 := eq_true q312
               refine start_ (n := 45) (S := fun w' => w'.cell? (ad305.add (((ji8)).toNat * 7)) = some (.int .i64 ((rd_T48 l0 (ji8)).f0)) ∧ w'.cell? ⟨(ad305.add (((ji8)).toNat * 7)).block, (ad305.add (((ji8)).toNat * 7)).off + 1, none⟩ = some (.int .i64 ((rd_T48 l0 (ji8)).f1)) ∧ w'.cell? ⟨(ad305.add (((ji8)).toNat * 7)).block, (ad305.add (((ji8)).toNat * 7)).off + 2, none⟩ = some (.int .i64 ((rd_T48 l0 (ji8)).f2)) ∧ w'.cell? ⟨(ad305.add (((ji8)).toNat * 7)).block, (ad305.add (((ji8)).toNat * 7)).off + 3, none⟩ = some (.int .i64 ((rd_T48 l0 (ji8)).f3)) ∧ w'.cell? ⟨(ad305.add (((ji8)).toNat * 7)).block, (ad305.add (((ji8)).toNat * 7)).off + 4, none⟩ = some (.int .i64 ((rd_T48 l0 (ji8)).f4)) ∧ w'.cell? ⟨(ad305.add (((ji8)).toNat * 7)).block, (ad305.add (((ji8)).toNat * 7)).off + 5, none⟩ = some (.string ((rd_T48 l0 (ji8)).f5)) ∧ w'.cell? ⟨(ad305.add (((ji8)).toNat * 7)).block, (ad305.add (((ji8)).toNat * 7)).off + 6, none⟩ = some (.int .i64 ((rd_T48 l0 (ji8)).f6)) ∧ w'.cell? (ad305.add ((x4_1).toNat * 7)) = some (.int .i64 ((rd_T48 l0 x4_1).f0)) ∧ w'.cell? ⟨(ad305.add ((x4_1).toNat * 7)).block, (ad305.add ((x4_1).toNat * 7)).off + 1, none⟩ = some (.int .i64 ((rd_T48 l0 x4_1).f1)) ∧ w'.cell? ⟨(ad305.add ((x4_1).toNat * 7)).block, (ad305.add ((x4_1).toNat * 7)).off + 2, none⟩ = some (.int .i64 ((rd_T48 l0 x4_1).f2)) ∧ w'.cell? ⟨(ad305.add ((x4_1).toNat * 7)).block, (ad305.add ((x4_1).toNat * 7)).off + 3, none⟩ = some (.int .i64 ((rd_T48 l0 x4_1).f3)) ∧ w'.cell? ⟨(ad305.add ((x4_1).toNat * 7)).block, (ad305.add ((x4_1).toNat * 7)).off + 4, none⟩ = some (.int .i64 ((rd_T48 l0 x4_1).f4)) ∧ w'.cell? ⟨(ad305.add ((x4_1).toNat * 7)).block, (ad305.add ((x4_1).toNat * 7)).off + 5, none⟩ = some (.string ((rd_T48 l0 x4_1).f5)) ∧ w'.cell? ⟨(ad305.add ((x4_1).toNat * 7)).block, (ad305.add ((x4_1).toNat * 7)).off + 6, none⟩ = some (.int .i64 ((rd_T48 l0 x4_1).f6)) ∧ w'.cell? (ad305.add (((ji8)).toNat * 7)) = some (.int .i64 ((rd_T48 l0 (ji8)).f0)) ∧ w'.cell? ⟨(ad305.add (((ji8)).toNat * 7)).block, (ad305.add (((ji8)).toNat * 7)).off + 1, none⟩ = some (.int .i64 ((rd_T48 l0 (ji8)).f1)) ∧ w'.cell? ⟨(ad305.add (((ji8)).toNat * 7)).block, (ad305.add (((ji8)).toNat * 7)).off + 2, none⟩ = some (.int .i64 ((rd_T48 l0 (ji8)).f2)) ∧ w'.cell? ⟨(ad305.add (((ji8)).toNat * 7)).block, (ad305.add (((ji8)).toNat * 7)).off + 3, none⟩ = some (.int .i64 ((rd_T48 l0 (ji8)).f3)) ∧ w'.cell? ⟨(ad305.add (((ji8)).toNat * 7)).block, (ad305.add (((ji8)).toNat * 7)).off + 4, none⟩ = some (.int .i64 ((rd_T48 l0 (ji8)).f4)) ∧ w'.cell? ⟨(ad305.add (((ji8)).toNat * 7)).block, (ad305.add (((ji8)).toNat * 7)).off + 5, none⟩ = some (.string ((rd_T48 l0 (ji8)).f5)) ∧ w'.cell? ⟨(ad305.add (((ji8)).toNat * 7)).block, (ad305.add (((ji8)).toNat * 7)).off + 6, none⟩ = some (.int .i64 ((rd_T48 l0 (ji8)).f6)) ∧ w'.cell? (ad305.add ((x4_1).toNat * 7)) = some (.int .i64 ((rd_T48 l0 x4_1).f0)) ∧ w'.cell? ⟨(ad305.add ((x4_1).toNat * 7)).block, (ad305.add ((x4_1).toNat * 7)).off + 1, none⟩ = some (.int .i64 ((rd_T48 l0 x4_1).f1)) ∧ w'.cell? ⟨(ad305.add ((x4_1).toNat * 7)).block, (ad305.add ((x4_1).toNat * 7)).off + 2, none⟩ = some (.int .i64 ((rd_T48 l0 x4_1).f2)) ∧ w'.cell? ⟨(ad305.add ((x4_1).toNat * 7)).block, (ad305.add ((x4_1).toNat * 7)).off + 3, none⟩ = some (.int .i64 ((rd_T48 l0 x4_1).f3)) ∧ w'.cell? ⟨(ad305.add ((x4_1).toNat * 7)).block, (ad305.add ((x4_1).toNat * 7)).off + 4, none⟩ = some (.int .i64 ((rd_T48 l0 x4_1).f4)) ∧ w'.cell? ⟨(ad305.add ((x4_1).toNat * 7)).block, (ad305.add ((x4_1).toNat * 7)).off + 5, none⟩ = some (.string ((rd_T48 l0 x4_1).f5)) ∧ w'.cell? ⟨(ad305.add ((x4_1).toNat * 7)).block, (ad305.add ((x4_1).toNat * 7)).off + 6, none⟩ = some (.int .i64 ((rd_T48 l0 x4_1).f6)) ∧ w'.cell? (ad305.add (((ji8)).toNat * 7)) = some (.int .i64 ((rd_T48 l0 (ji8)).f0)) ∧ w'.cell? ⟨(ad305.add (((ji8)).toNat * 7)).block, (ad305.add (((ji8)).toNat * 7)).off + 1, none⟩ = some (.int .i64 ((rd_T48 l0 (ji8)).f1)) ∧ w'.cell? ⟨(ad305.add (((ji8)).toNat * 7)).block, (ad305.add (((ji8)).toNat * 7)).off + 2, none⟩ = some (.int .i64 ((rd_T48 l0 (ji8)).f2)) ∧ w'.cell? ⟨(ad305.add (((ji8)).toNat * 7)).block, (ad305.add (((ji8)).toNat * 7)).off + 3, none⟩ = some (.int .i64 ((rd_T48 l0 (ji8)).f3)) ∧ w'.cell? ⟨(ad305.add (((ji8)).toNat * 7)).block, (ad305.add (((ji8)).toNat * 7)).off + 4, none⟩ = some (.int .i64 ((rd_T48 l0 (ji8)).f4)) ∧ w'.cell? ⟨(ad305.add (((ji8)).toNat * 7)).block, (ad305.add (((ji8)).toNat * 7)).off + 5, none⟩ = some (.string ((rd_T48 l0 (ji8)).f5)) ∧ w'.cell? ⟨(ad305.add (((ji8)).toNat * 7)).block, (ad305.add (((ji8)).toNat * 7)).off + 6, none⟩ = some (.int .i64 ((rd_T48 l0 (ji8)).f6)) ∧ w'.cell? (ad305.add ((x4_1).toNat * 7)) = some (.int .i64 ((rd_T48 l0 x4_1).f0)) ∧ w'.cell? ⟨(ad305.add ((x4_1).toNat * 7)).block, (ad305.add ((x4_1).toNat * 7)).off + 1, none⟩ = some (.int .i64 ((rd_T48 l0 x4_1).f1)) ∧ w'.cell? ⟨(ad305.add ((x4_1).toNat * 7)).block, (ad305.add ((x4_1).toNat * 7)).off + 2, none⟩ = some (.int .i64 ((rd_T48 l0 x4_1).f2)) ∧ w'.cell? ⟨(ad305.add ((x4_1).toNat * 7)).block, (ad305.add ((x4_1).toNat * 7)).off + 3, none⟩ = some (.int .i64 ((rd_T48 l0 x4_1).f3)) ∧ w'.cell? ⟨(ad305.add ((x4_1).toNat * 7)).block, (ad305.add ((x4_1).toNat * 7)).off + 4, none⟩ = some (.int .i64 ((rd_T48 l0 x4_1).f4)) ∧ w'.cell? ⟨(ad305.add ((x4_1).toNat * 7)).block, (ad305.add ((x4_1).toNat * 7)).off + 5, none⟩ = some (.string ((rd_T48 l0 x4_1).f5)) ∧ w'.cell? ⟨(ad305.add ((x4_1).toNat * 7)).block, (ad305.add ((x4_1).toNat * 7)).off + 6, none⟩ = some (.int .i64 ((rd_T48 l0 x4_1).f6))) (ds := []) (bsq 0 45) (by kernel_rfl) rfl rfl ⟨((HB.out.cell (World.block_lt_of_cell? w _ hw305_0)).trans hw305_0), ((HB.out.cell (World.block_lt_of_cell? w _ hw305_1)).trans hw305_1), ((HB.out.cell (World.block_lt_of_cell? w _ hw305_2)).trans hw305_2), ((HB.out.cell (World.block_lt_of_cell? w _ hw305_3)).trans hw305_3), ((HB.out.cell (World.block_lt_of_cell? w _ hw305_4)).trans hw305_4), ((HB.out.cell (World.block_lt_of_cell? w _ hw305_5)).trans hw305_5), ((HB.out.cell (World.block_lt_of_cell? w _ hw305_6)).trans hw305_6), ((HB.out.cell (World.block_lt_of_cell? w _ hw307_0)).trans hw307_0), ((HB.out.cell (World.block_lt_of_cell? w _ hw307_1)).trans hw307_1), ((HB.out.cell (World.block_lt_of_cell? w _ hw307_2)).trans hw307_2), ((HB.out.cell (World.block_lt_of_cell? w _ hw307_3)).trans hw307_3), ((HB.out.cell (World.block_lt_of_cell? w _ hw307_4)).trans hw307_4), ((HB.out.cell (World.block_lt_of_cell? w _ hw307_5)).trans hw307_5), ((HB.out.cell (World.block_lt_of_cell? w _ hw307_6)).trans hw307_6), ((HB.out.cell (World.block_lt_of_cell? w _ hw309_0)).trans hw309_0), ((HB.out.cell (World.block_lt_of_cell? w _ hw309_1)).trans hw309_1), ((HB.out.cell (World.block_lt_of_cell? w _ hw309_2)).trans hw309_2), ((HB.out.cell (World.block_lt_of_cell? w _ hw309_3)).trans hw309_3), ((HB.out.cell (World.block_lt_of_cell? w _ hw309_4)).trans hw309_4), ((HB.out.cell (World.block_lt_of_cell? w _ hw309_5)).trans hw309_5), ((HB.out.cell (World.block_lt_of_cell? w _ hw309_6)).trans hw309_6), ((HB.out.cell (World.block_lt_of_cell? w _ hw310_0)).trans hw310_0), ((HB.out.cell (World.block_lt_of_cell? w _ hw310_1)).trans hw310_1), ((HB.out.cell (World.block_lt_of_cell? w _ hw310_2)).trans hw310_2), ((HB.out.cell (World.block_lt_of_cell? w _ hw310_3)).trans hw310_3), ((HB.out.cell (World.block_lt_of_cell? w _ hw310_4)).trans hw310_4), ((HB.out.cell (World.block_lt_of_cell? w _ hw310_5)).trans hw310_5), ((HB.out.cell (World.block_lt_of_cell? w _ hw310_6)).trans hw310_6), ((HB.out.cell (World.block_lt_of_cell? w _ hw311_0)).trans hw311_0), ((HB.out.cell (World.block_lt_of_cell? w _ hw311_1)).trans hw311_1), ((HB.out.cell (World.block_lt_of_cell? w _ hw311_2)).trans hw311_2), ((HB.out.cell (World.block_lt_of_cell? w _ hw311_3)).trans hw311_3), ((HB.out.cell (World.block_lt_of_cell? w _ hw311_4)).trans hw311_4), ((HB.out.cell (World.block_lt_of_cell? w _ hw311_5)).trans hw311_5), ((HB.out.cell (World.block_lt_of_cell? w _ hw311_6)).trans hw311_6), ((HB.out.cell (World.block_lt_of_cell? w _ hw312_0)).trans hw312_0), ((HB.out.cell (World.block_lt_of_cell? w _ hw312_1)).trans hw312_1), ((HB.out.cell (World.block_lt_of_cell? w _ hw312_2)).trans hw312_2), ((HB.out.cell (World.block_lt_of_cell? w _ hw312_3)).trans hw312_3), ((HB.out.cell (World.block_lt_of_cell? w _ hw312_4)).trans hw312_4), ((HB.out.cell (World.block_lt_of_cell? w _ hw312_5)).trans hw312_5), ((HB.out.cell (World.block_lt_of_cell? w _ hw312_6)).trans hw312_6)⟩ (fun hHeld => ?_); refine with_tabW signalbenchref14_Merge.tab5 signalbenchref14_Merge.bits5 (fun HT_ HW_ => ?_)
               generalize wr.drew = w29 at HO_3 HB hx305_0 hx305_1 hx305_2 hx305_3 hx305_4 hx305_5 hx305_6 hx307_0 hx307_1 hx307_2 hx307_3 hx307_4 hx307_5 hx307_6 hx309_0 hx309_1 hx309_2 hx309_3 hx309_4 hx309_5 hx309_6 hx310_0 hx310_1 hx310_2 hx310_3 hx310_4 hx310_5 hx310_6 hx311_0 hx311_1 hx311_2 hx311_3 hx311_4 hx311_5 hx311_6 hx312_0 hx312_1 hx312_2 hx312_3 hx312_4 hx312_5 hx312_6 hHeld ⊢
               refine pu 0 14 (bsq 1 44) ?_
               refine pu 1 15 (bsq 2 43) ?_
               refine pu 2 16 (bsq 3 42) ?_
               refine pu 3 17 (bsq 4 41) ?_
               refine pu 4 18 (bsq 5 40) ?_
               refine pu 5 19 (bsq 6 39) ?_
               refine pu 6 20 (bsq 7 38) ?_
               refine tk 7 21 (bsq 8 37) hHeld ?_ (he := by rintro w' ⟨s0, s1, s2, s3, s4, s5, s6, s7, s8, s9, s10, s11, s12, s13, s14, s15, s16, s17, s18, s19, s20, s21, s22, s23, s24, s25, s26, s27, s28, s29, s30, s31, s32, s33, s34, s35, s36, s37, s38, s39, s40, s41⟩; go_simp; with_reducible rfl)
               refine one_ (i := 8) (N := some 22) (bsq 9 36) rfl rfl (one_of HT_.out (by kernel_rfl)) (by decide) (fun K hK => ?_)
               refine goes_ Try.func31 (by kernel_rfl) rfl #[.agg #[.int .i64 ((rd_T48 l0 (ji8)).f0), .int .i64 ((rd_T48 l0 (ji8)).f1), .int .i64 ((rd_T48 l0 (ji8)).f2), .int .i64 ((rd_T48 l0 (ji8)).f3), .int .i64 ((rd_T48 l0 (ji8)).f4), .string ((rd_T48 l0 (ji8)).f5), .int .i64 ((rd_T48 l0 (ji8)).f6)]] (by rfl) rfl rfl (by (try simp only [List.map_toArray, List.map_cons, List.map_nil]); first | done | (simp only [hji8]; rfl) | rfl | (simp only [List.length_drop, List.length_take]; rfl)) ?_
               with_reducible refine (signalbenchref14_Plain.calls ((rd_T48 l0 (ji8)).f0) ((rd_T48 l0 (ji8)).f1) ((rd_T48 l0 (ji8)).f2) ((rd_T48 l0 (ji8)).f3) ((rd_T48 l0 (ji8)).f4) ((rd_T48 l0 (ji8)).f5) ((rd_T48 l0 (ji8)).f6) true _ A11.out).mono ?_
               rintro e w30 ⟨rfl, hb⟩
               refine ⟨_, rfl, ?_⟩
               have n0_ := Aside0.mk (Kd.R_below (rq HO_3.out) hb)
               have n1_ := Aside0.mk (below_step (bs HB.out) hb)
               clear HO_3
               clear HB
               have HO_3 := n0_
               have HB := n1_
               clear n0_ n1_
               (try clear hb)
               (try clear hb2)
               (try clear hk)
               (try clear hi)
               refine hK.out _ _ ⟨((HB.out.cell (World.block_lt_of_cell? w _ hw305_0)).trans hw305_0), ((HB.out.cell (World.block_lt_of_cell? w _ hw305_1)).trans hw305_1), ((HB.out.cell (World.block_lt_of_cell? w _ hw305_2)).trans hw305_2), ((HB.out.cell (World.block_lt_of_cell? w _ hw305_3)).trans hw305_3), ((HB.out.cell (World.block_lt_of_cell? w _ hw305_4)).trans hw305_4), ((HB.out.cell (World.block_lt_of_cell? w _ hw305_5)).trans hw305_5), ((HB.out.cell (World.block_lt_of_cell? w _ hw305_6)).trans hw305_6), ((HB.out.cell (World.block_lt_of_cell? w _ hw307_0)).trans hw307_0), ((HB.out.cell (World.block_lt_of_cell? w _ hw307_1)).trans hw307_1), ((HB.out.cell (World.block_lt_of_cell? w _ hw307_2)).trans hw307_2), ((HB.out.cell (World.block_lt_of_cell? w _ hw307_3)).trans hw307_3), ((HB.out.cell (World.block_lt_of_cell? w _ hw307_4)).trans hw307_4), ((HB.out.cell (World.block_lt_of_cell? w _ hw307_5)).trans hw307_5), ((HB.out.cell (World.block_lt_of_cell? w _ hw307_6)).trans hw307_6), ((HB.out.cell (World.block_lt_of_cell? w _ hw309_0)).trans hw309_0), ((HB.out.cell (World.block_lt_of_cell? w _ hw309_1)).trans hw309_1), ((HB.out.cell (World.block_lt_of_cell? w _ hw309_2)).trans hw309_2), ((HB.out.cell (World.block_lt_of_cell? w _ hw309_3)).trans hw309_3), ((HB.out.cell (World.block_lt_of_cell? w _ hw309_4)).trans hw309_4), ((HB.out.cell (World.block_lt_of_cell? w _ hw309_5)).trans hw309_5), ((HB.out.cell (World.block_lt_of_cell? w _ hw309_6)).trans hw309_6), ((HB.out.cell (World.block_lt_of_cell? w _ hw310_0)).trans hw310_0), ((HB.out.cell (World.block_lt_of_cell? w _ hw310_1)).trans hw310_1), ((HB.out.cell (World.block_lt_of_cell? w _ hw310_2)).trans hw310_2), ((HB.out.cell (World.block_lt_of_cell? w _ hw310_3)).trans hw310_3), ((HB.out.cell (World.block_lt_of_cell? w _ hw310_4)).trans hw310_4), ((HB.out.cell (World.block_lt_of_cell? w _ hw310_5)).trans hw310_5), ((HB.out.cell (World.block_lt_of_cell? w _ hw310_6)).trans hw310_6), ((HB.out.cell (World.block_lt_of_cell? w _ hw311_0)).trans hw311_0), ((HB.out.cell (World.block_lt_of_cell? w _ hw311_1)).trans hw311_1), ((HB.out.cell (World.block_lt_of_cell? w _ hw311_2)).trans hw311_2), ((HB.out.cell (World.block_lt_of_cell? w _ hw311_3)).trans hw311_3), ((HB.out.cell (World.block_lt_of_cell? w _ hw311_4)).trans hw311_4), ((HB.out.cell (World.block_lt_of_cell? w _ hw311_5)).trans hw311_5), ((HB.out.cell (World.block_lt_of_cell? w _ hw311_6)).trans hw311_6), ((HB.out.cell (World.block_lt_of_cell? w _ hw312_0)).trans hw312_0), ((HB.out.cell (World.block_lt_of_cell? w _ hw312_1)).trans hw312_1), ((HB.out.cell (World.block_lt_of_cell? w _ hw312_2)).trans hw312_2), ((HB.out.cell (World.block_lt_of_cell? w _ hw312_3)).trans hw312_3), ((HB.out.cell (World.block_lt_of_cell? w _ hw312_4)).trans hw312_4), ((HB.out.cell (World.block_lt_of_cell? w _ hw312_5)).trans hw312_5), ((HB.out.cell (World.block_lt_of_cell? w _ hw312_6)).trans hw312_6)⟩ (fun hHeld => ?_)
               clear hK K
               refine norm_ (a' := ?_) ?_ ?_
               rotate_left
               ·
                show Act.put _ (some 22) _ = _
                simp only [Act.put, List.setIfInBounds_toArray, List.set_cons_zero, List.set_cons_succ, i64_w, i32_w]
                rfl
               refine pu 9 23 (bsq 10 35) ?_
               refine pu 10 24 (bsq 11 34) ?_
               refine pu 11 25 (bsq 12 33) ?_
               refine pu 12 26 (bsq 13 32) ?_
               refine pu 13 27 (bsq 14 31) ?_
               refine tk 14 28 (bsq 15 30) hHeld ?_ (he := by rintro w' ⟨s0, s1, s2, s3, s4, s5, s6, s7, s8, s9, s10, s11, s12, s13, s14, s15, s16, s17, s18, s19, s20, s21, s22, s23, s24, s25, s26, s27, s28, s29, s30, s31, s32, s33, s34, s35, s36, s37, s38, s39, s40, s41⟩; go_simp; with_reducible rfl)
               refine one_ (i := 15) (N := some 29) (bsq 16 29) rfl rfl (one_of HT_.out (by kernel_rfl)) (by decide) (fun K hK => ?_)
               refine goes_ Try.func31 (by kernel_rfl) rfl #[.agg #[.int .i64 ((rd_T48 l0 x4_1).f0), .int .i64 ((rd_T48 l0 x4_1).f1), .int .i64 ((rd_T48 l0 x4_1).f2), .int .i64 ((rd_T48 l0 x4_1).f3), .int .i64 ((rd_T48 l0 x4_1).f4), .string ((rd_T48 l0 x4_1).f5), .int .i64 ((rd_T48 l0 x4_1).f6)]] (by rfl) rfl rfl (by (try simp only [List.map_toArray, List.map_cons, List.map_nil]); first | done | rfl | (simp only [List.length_drop, List.length_take]; rfl)) ?_
               with_reducible refine (signalbenchref14_Plain.calls ((rd_T48 l0 x4_1).f0) ((rd_T48 l0 x4_1).f1) ((rd_T48 l0 x4_1).f2) ((rd_T48 l0 x4_1).f3) ((rd_T48 l0 x4_1).f4) ((rd_T48 l0 x4_1).f5) ((rd_T48 l0 x4_1).f6) true _ A14.out).mono ?_
               rintro e w31 ⟨rfl, hb⟩
               refine ⟨_, rfl, ?_⟩
               have n0_ := Aside0.mk (Kd.R_below (rq HO_3.out) hb)
               have n1_ := Aside0.mk (below_step (bs HB.out) hb)
               clear HO_3
               clear HB
               have HO_3 := n0_
               have HB := n1_
               clear n0_ n1_
               (try clear hb)
               (try clear hb2)
               (try clear hk)
               (try clear hi)
               refine hK.out _ _ ⟨((HB.out.cell (World.block_lt_of_cell? w _ hw305_0)).trans hw305_0), ((HB.out.cell (World.block_lt_of_cell? w _ hw305_1)).trans hw305_1), ((HB.out.cell (World.block_lt_of_cell? w _ hw305_2)).trans hw305_2), ((HB.out.cell (World.block_lt_of_cell? w _ hw305_3)).trans hw305_3), ((HB.out.cell (World.block_lt_of_cell? w _ hw305_4)).trans hw305_4), ((HB.out.cell (World.block_lt_of_cell? w _ hw305_5)).trans hw305_5), ((HB.out.cell (World.block_lt_of_cell? w _ hw305_6)).trans hw305_6), ((HB.out.cell (World.block_lt_of_cell? w _ hw307_0)).trans hw307_0), ((HB.out.cell (World.block_lt_of_cell? w _ hw307_1)).trans hw307_1), ((HB.out.cell (World.block_lt_of_cell? w _ hw307_2)).trans hw307_2), ((HB.out.cell (World.block_lt_of_cell? w _ hw307_3)).trans hw307_3), ((HB.out.cell (World.block_lt_of_cell? w _ hw307_4)).trans hw307_4), ((HB.out.cell (World.block_lt_of_cell? w _ hw307_5)).trans hw307_5), ((HB.out.cell (World.block_lt_of_cell? w _ hw307_6)).trans hw307_6), ((HB.out.cell (World.block_lt_of_cell? w _ hw309_0)).trans hw309_0), ((HB.out.cell (World.block_lt_of_cell? w _ hw309_1)).trans hw309_1), ((HB.out.cell (World.block_lt_of_cell? w _ hw309_2)).trans hw309_2), ((HB.out.cell (World.block_lt_of_cell? w _ hw309_3)).trans hw309_3), ((HB.out.cell (World.block_lt_of_cell? w _ hw309_4)).trans hw309_4), ((HB.out.cell (World.block_lt_of_cell? w _ hw309_5)).trans hw309_5), ((HB.out.cell (World.block_lt_of_cell? w _ hw309_6)).trans hw309_6), ((HB.out.cell (World.block_lt_of_cell? w _ hw310_0)).trans hw310_0), ((HB.out.cell (World.block_lt_of_cell? w _ hw310_1)).trans hw310_1), ((HB.out.cell (World.block_lt_of_cell? w _ hw310_2)).trans hw310_2), ((HB.out.cell (World.block_lt_of_cell? w _ hw310_3)).trans hw310_3), ((HB.out.cell (World.block_lt_of_cell? w _ hw310_4)).trans hw310_4), ((HB.out.cell (World.block_lt_of_cell? w _ hw310_5)).trans hw310_5), ((HB.out.cell (World.block_lt_of_cell? w _ hw310_6)).trans hw310_6), ((HB.out.cell (World.block_lt_of_cell? w _ hw311_0)).trans hw311_0), ((HB.out.cell (World.block_lt_of_cell? w _ hw311_1)).trans hw311_1), ((HB.out.cell (World.block_lt_of_cell? w _ hw311_2)).trans hw311_2), ((HB.out.cell (World.block_lt_of_cell? w _ hw311_3)).trans hw311_3), ((HB.out.cell (World.block_lt_of_cell? w _ hw311_4)).trans hw311_4), ((HB.out.cell (World.block_lt_of_cell? w _ hw311_5)).trans hw311_5), ((HB.out.cell (World.block_lt_of_cell? w _ hw311_6)).trans hw311_6), ((HB.out.cell (World.block_lt_of_cell? w _ hw312_0)).trans hw312_0), ((HB.out.cell (World.block_lt_of_cell? w _ hw312_1)).trans hw312_1), ((HB.out.cell (World.block_lt_of_cell? w _ hw312_2)).trans hw312_2), ((HB.out.cell (World.block_lt_of_cell? w _ hw312_3)).trans hw312_3), ((HB.out.cell (World.block_lt_of_cell? w _ hw312_4)).trans hw312_4), ((HB.out.cell (World.block_lt_of_cell? w _ hw312_5)).trans hw312_5), ((HB.out.cell (World.block_lt_of_cell? w _ hw312_6)).trans hw312_6)⟩ (fun hHeld => ?_)
               clear hK K
               refine norm_ (a' := ?_) ?_ ?_
               rotate_left
               ·
                show Act.put _ (some 29) _ = _
                simp only [Act.put, List.setIfInBounds_toArray, List.set_cons_zero, List.set_cons_succ, i64_w, i32_w]
                rfl
               refine pu 16 30 (bsq 17 28) ?_
               refine pu 17 31 (bsq 18 27) ?_
               refine pu 18 32 (bsq 19 26) ?_
               refine pu 19 33 (bsq 20 25) ?_
               refine pu 20 34 (bsq 21 24) ?_
               refine pu 21 35 (bsq 22 23) ?_
               refine pu 22 36 (bsq 23 22) ?_
               refine pu 24 38 (bls [23, 1, 1, 20]) ?_
               refine pu 25 39 (bls [23, 1, 2, 19]) ?_
               refine pu 26 40 (bls [23, 1, 3, 18]) ?_
               refine pu 27 41 (bls [23, 1, 4, 17]) ?_
               refine tk 23 37 (bsq 28 17) hHeld ?_ (he := by rintro w' ⟨s0, s1, s2, s3, s4, s5, s6, s7, s8, s9, s10, s11, s12, s13, s14, s15, s16, s17, s18, s19, s20, s21, s22, s23, s24, s25, s26, s27, s28, s29, s30, s31, s32, s33, s34, s35, s36, s37, s38, s39, s40, s41⟩; go_simp; with_reducible rfl)
               refine tk 28 42 (bsq 29 16) hHeld ?_ (he := by rintro w' ⟨s0, s1, s2, s3, s4, s5, s6, s7, s8, s9, s10, s11, s12, s13, s14, s15, s16, s17, s18, s19, s20, s21, s22, s23, s24, s25, s26, s27, s28, s29, s30, s31, s32, s33, s34, s35, s36, s37, s38, s39, s40, s41⟩; go_simp; with_reducible rfl)
               refine pu 29 43 (bsq 30 15) ?_
               refine pu 30 44 (bsq 31 14) ?_
               refine pu 31 45 (bsq 32 13) ?_
               refine pu 32 46 (bsq 33 12) ?_
               refine pu 33 47 (bsq 34 11) ?_
               refine pu 34 48 (bsq 35 10) ?_
               refine pu 35 49 (bsq 36 9) ?_
               refine pu 36 50 (bsq 37 8) ?_
               refine pu 38 52 (bls [37, 1, 1, 6]) ?_
               refine pu 39 53 (bls [37, 1, 2, 5]) ?_
               refine pu 40 54 (bls [37, 1, 3, 4]) ?_
               refine pu 41 55 (bls [37, 1, 4, 3]) ?_
               refine tk 37 51 (bsq 42 3) hHeld ?_ (he := by rintro w' ⟨s0, s1, s2, s3, s4, s5, s6, s7, s8, s9, s10, s11, s12, s13, s14, s15, s16, s17, s18, s19, s20, s21, s22, s23, s24, s25, s26, s27, s28, s29, s30, s31, s32, s33, s34, s35, s36, s37, s38, s39, s40, s41⟩; go_simp; with_reducible rfl)
               refine tk 42 56 (bsq 43 2) hHeld ?_ (he := by rintro w' ⟨s0, s1, s2, s3, s4, s5, s6, s7, s8, s9, s10, s11, s12, s13, s14, s15, s16, s17, s18, s19, s20, s21, s22, s23, s24, s25, s26, s27, s28, s29, s30, s31, s32, s33, s34, s35, s36, s37, s38, s39, s40, s41⟩; go_simp; with_reducible rfl)
               refine pu 43 57 (bsq 44 1) ?_
               refine pu 44 58 (bsq 45 0) ?_
               refine done_ (done_of HT_.out (by kernel_rfl)) ?_
               have p315 : 0 ≤ (x4_1 : Int) := of_decide_eq_true (by first | (with_reducible assumption) | assumption)
               have q315 : x4_1 < (l0.length : Int) := of_decide_eq_true (by first | (with_reducible assumption) | assumption)
               obtain ⟨ad315, e315, hx315_0, hx315_1, hx315_2, hx315_3, hx315_4, hx315_5, hx315_6⟩ := at_T48 HR0.out x4_1 p315 q315
               obtain rfl : ad305 = ad315 := (by injection e315)
               replace hx315_0 := pw_cell_below HB.out hx315_0
               replace hx315_1 := pw_cell_below HB.out hx315_1
               replace hx315_2 := pw_cell_below HB.out hx315_2
               replace hx315_3 := pw_cell_below HB.out hx315_3
               replace hx315_4 := pw_cell_below HB.out hx315_4
               replace hx315_5 := pw_cell_below HB.out hx315_5
               replace hx315_6 := pw_cell_below HB.out hx315_6
               replace p315 := eq_true p315
               replace q315 := eq_true q315
               try go_wp2_with (first | ((with_reducible refine gate_builtin (b := .append) (xs := #[.tmp 70, .tmp 75]) rfl ?_); at_builtin; refine Kd.R_append k48 (w0 := w) w.heap.size rfl (.tmp 70) (.tmp 75) 26 48 (.agg #[(.int .i64 0), (.int .i64 0), (.int .i64 0), (.int .i64 0), (.int .i64 0), (.string ⟨#[]⟩), (.int .i64 0)]) 64 rfl Try.underlying26 info48 rfl (by decide) (by omega) u3 x3_1 (⟨(rd_T48 l0 x4_1).f0, (rd_T48 l0 x4_1).f1, (rd_T48 l0 x4_1).f2, (rd_T48 l0 x4_1).f3, (rd_T48 l0 x4_1).f4, (rd_T48 l0 x4_1).f5, (rd_T48 l0 x4_1).f6⟩ : S48) [.int .i64 ((rd_T48 l0 x4_1).f0), .int .i64 ((rd_T48 l0 x4_1).f1), .int .i64 ((rd_T48 l0 x4_1).f2), .int .i64 ((rd_T48 l0 x4_1).f3), .int .i64 ((rd_T48 l0 x4_1).f4), .string ((rd_T48 l0 x4_1).f5), .int .i64 ((rd_T48 l0 x4_1).f6)] (fun _ => True) (fun _ => False) rfl rfl ?aP (fun _ hk => hk.elim) ?aF ?aO ?aB ?aS ?aL ?_; (case aP => exact k48_mkM _ _ _ (⟨(rd_T48 l0 x4_1).f0, (rd_T48 l0 x4_1).f1, (rd_T48 l0 x4_1).f2, (rd_T48 l0 x4_1).f3, (rd_T48 l0 x4_1).f4, (rd_T48 l0 x4_1).f5, (rd_T48 l0 x4_1).f6⟩ : S48)); (case aB => exact (bs HB.out)); (case aF => exact (fun _ _ => trivial)); (case aO => exact (rq HO_3.out)); (case aS => exact (below_size (bs HB.out))); (case aL => have := LMc28.out; omega); intro v317 w32 ho hb hg hat; rw [← Ny316.out] at ho; have n0_ := Aside0.mk (hb); have n1_ := Aside0.mk (ho); clear HB; clear HO_3; have HB := n0_; have HO318 := n1_; clear n0_ n1_; clear ho hb hg hat))
               go_roundg k1
               case measure => have := HK1.out; omega
               case rel => exact ⟨(y316), (wrap64 (x4_1 + 1)), (by first | rfl | (simp; done) | (simp [*]; done)), H', ⟨by have := HK1.out; omega⟩, ⟨by (with_reducible repeat (first | apply Kd.R_alloc | apply Kd.R_drewN | apply Kd.R_drew)); exact HO318.out⟩, ⟨bs HB.out⟩⟩
              ·
               rw [if_neg c28] at H
               exact absurd H (by simp)
            ·
             rw [if_neg c16] at H
             have c16b0 : (((rd_T48 l0 (ji8)).f3) == ((rd_T48 l0 x4_1).f3)) = false := beq_eq_false_iff_ne.mpr c16
             have c16b1 : (((rd_T48 l0 (ji8)).f3) != ((rd_T48 l0 x4_1).f3)) = true := bne_iff_ne.mpr c16
             by_cases c33 : x3_1.length < 2199023255552
             ·
              rw [if_pos c33] at H
              have LMc33 := Aside0.mk c33
              clear c33
              obtain ⟨y320, hy320⟩ : ∃ y_ : List (S48), y_ = (x3_1 ++ [(⟨(rd_T48 l0 x4_1).f0, (rd_T48 l0 x4_1).f1, (rd_T48 l0 x4_1).f2, (rd_T48 l0 x4_1).f3, (rd_T48 l0 x4_1).f4, (rd_T48 l0 x4_1).f5, (rd_T48 l0 x4_1).f6⟩ : S48)]) := ⟨_, rfl⟩
              replace H : (signalbenchref14_Merge.l0 k1 l0 y320 (wrap64 (x4_1 + 1))) = some r := by first | (rw [hy320]; with_reducible exact H) | (have H2_ := (Option.bind_some _ _).symm.trans H; rw [hy320]; with_reducible exact H2_) | (have H2_ := (Option.bind_some _ _).symm.trans H; with_reducible exact H2_) | with_reducible exact H | (rw [hy320]; exact H) | exact H
              have Ny320 := Aside0.mk hy320
              clear hy320
              have H' := Aside0.mk H
              clear H
              try go_wp2
              have n0_ := Aside0.mk (Kd.R_drew HO_3.out)
              have n1_ := Aside0.mk (below_drew1 HB.out)
              clear HO_3
              clear HB
              have HO_3 := n0_
              have HB := n1_
              clear n0_ n1_
              have p305 : 0 ≤ ((ji8) : Int) := of_decide_eq_true (by first | (with_reducible assumption) | assumption)
              have q305 : (ji8) < (l0.length : Int) := of_decide_eq_true (by first | (with_reducible assumption) | assumption)
              obtain ⟨ad305, e305, hx305_0, hx305_1, hx305_2, hx305_3, hx305_4, hx305_5, hx305_6⟩ := at_T48 HR0.out (ji8) p305 q305
              have hw305_6 := hx305_6
              have hw305_5 := hx305_5
              have hw305_4 := hx305_4
              have hw305_3 := hx305_3
              have hw305_2 := hx305_2
              have hw305_1 := hx305_1
              have hw305_0 := hx305_0
              cases e305
              replace hx305_0 := pw_cell_below HB.out hx305_0
              replace hx305_1 := pw_cell_below HB.out hx305_1
              replace hx305_2 := pw_cell_below HB.out hx305_2
              replace hx305_3 := pw_cell_below HB.out hx305_3
              replace hx305_4 := pw_cell_below HB.out hx305_4
              replace hx305_5 := pw_cell_below HB.out hx305_5
              replace hx305_6 := pw_cell_below HB.out hx305_6
              replace p305 := eq_true p305
              replace q305 := eq_true q305
              have p307 : 0 ≤ (x4_1 : Int) := of_decide_eq_true (by first | (with_reducible assumption) | assumption)
              have q307 : x4_1 < (l0.length : Int) := of_decide_eq_true (by first | (with_reducible assumption) | assumption)
              obtain ⟨ad307, e307, hx307_0, hx307_1, hx307_2, hx307_3, hx307_4, hx307_5, hx307_6⟩ := at_T48 HR0.out x4_1 p307 q307
              have hw307_6 := hx307_6
              have hw307_5 := hx307_5
              have hw307_4 := hx307_4
              have hw307_3 := hx307_3
              have hw307_2 := hx307_2
              have hw307_1 := hx307_1
              have hw307_0 := hx307_0
              obtain rfl : ad305 = ad307 := (by injection e307)
              replace hx307_0 := pw_cell_below HB.out hx307_0
              replace hx307_1 := pw_cell_below HB.out hx307_1
              replace hx307_2 := pw_cell_below HB.out hx307_2
              replace hx307_3 := pw_cell_below HB.out hx307_3
              replace hx307_4 := pw_cell_below HB.out hx307_4
              replace hx307_5 := pw_cell_below HB.out hx307_5
              replace hx307_6 := pw_cell_below HB.out hx307_6
              replace p307 := eq_true p307
              replace q307 := eq_true q307
              have p309 : 0 ≤ ((ji8) : Int) := of_decide_eq_true (by first | (with_reducible assumption) | assumption)
              have q309 : (ji8) < (l0.length : Int) := of_decide_eq_true (by first | (with_reducible assumption) | assumption)
              obtain ⟨ad309, e309, hx309_0, hx309_1, hx309_2, hx309_3, hx309_4, hx309_5, hx309_6⟩ := at_T48 HR0.out (ji8) p309 q309
              have hw309_6 := hx309_6
              have hw309_5 := hx309_5
              have hw309_4 := hx309_4
              have hw309_3 := hx309_3
              have hw309_2 := hx309_2
              have hw309_1 := hx309_1
              have hw309_0 := hx309_0
              obtain rfl : ad305 = ad309 := (by injection e309)
              replace hx309_0 := pw_cell_below HB.out hx309_0
              replace hx309_1 := pw_cell_below HB.out hx309_1
              replace hx309_2 := pw_cell_below HB.out hx309_2
              replace hx309_3 := pw_cell_below HB.out hx309_3
              replace hx309_4 := pw_cell_below HB.out hx309_4
              replace hx309_5 := pw_cell_below HB.out hx309_5
              replace hx309_6 := pw_cell_below HB.out hx309_6
              replace p309 := eq_true p309
              replace q309 := eq_true q309
              have p310 : 0 ≤ (x4_1 : Int) := of_decide_eq_true (by first | (with_reducible assumption) | assumption)
              have q310 : x4_1 < (l0.length : Int) := of_decide_eq_true (by first | (with_reducible assumption) | assumption)
              obtain ⟨ad310, e310, hx310_0, hx310_1, hx310_2, hx310_3, hx310_4, hx310_5, hx310_6⟩ := at_T48 HR0.out x4_1 p310 q310
              have hw310_6 := hx310_6
              have hw310_5 := hx310_5
              have hw310_4 := hx310_4
              have hw310_3 := hx310_3
              have hw310_2 := hx310_2
              have hw310_1 := hx310_1
              have hw310_0 := hx310_0
              obtain rfl : ad305 = ad310 := (by injection e310)
              replace hx310_0 := pw_cell_below HB.out hx310_0
              replace hx310_1 := pw_cell_below HB.out hx310_1
              replace hx310_2 := pw_cell_below HB.out hx310_2
              replace hx310_3 := pw_cell_below HB.out hx310_3
              replace hx310_4 := pw_cell_below HB.out hx310_4
              replace hx310_5 := pw_cell_below HB.out hx310_5
              replace hx310_6 := pw_cell_below HB.out hx310_6
              replace p310 := eq_true p310
              replace q310 := eq_true q310
              refine start_ (n := 45) (S := fun w' => w'.cell? (ad305.add (((ji8)).toNat * 7)) = some (.int .i64 ((rd_T48 l0 (ji8)).f0)) ∧ w'.cell? ⟨(ad305.add (((ji8)).toNat * 7)).block, (ad305.add (((ji8)).toNat * 7)).off + 1, none⟩ = some (.int .i64 ((rd_T48 l0 (ji8)).f1)) ∧ w'.cell? ⟨(ad305.add (((ji8)).toNat * 7)).block, (ad305.add (((ji8)).toNat * 7)).off + 2, none⟩ = some (.int .i64 ((rd_T48 l0 (ji8)).f2)) ∧ w'.cell? ⟨(ad305.add (((ji8)).toNat * 7)).block, (ad305.add (((ji8)).toNat * 7)).off + 3, none⟩ = some (.int .i64 ((rd_T48 l0 (ji8)).f3)) ∧ w'.cell? ⟨(ad305.add (((ji8)).toNat * 7)).block, (ad305.add (((ji8)).toNat * 7)).off + 4, none⟩ = some (.int .i64 ((rd_T48 l0 (ji8)).f4)) ∧ w'.cell? ⟨(ad305.add (((ji8)).toNat * 7)).block, (ad305.add (((ji8)).toNat * 7)).off + 5, none⟩ = some (.string ((rd_T48 l0 (ji8)).f5)) ∧ w'.cell? ⟨(ad305.add (((ji8)).toNat * 7)).block, (ad305.add (((ji8)).toNat * 7)).off + 6, none⟩ = some (.int .i64 ((rd_T48 l0 (ji8)).f6)) ∧ w'.cell? (ad305.add ((x4_1).toNat * 7)) = some (.int .i64 ((rd_T48 l0 x4_1).f0)) ∧ w'.cell? ⟨(ad305.add ((x4_1).toNat * 7)).block, (ad305.add ((x4_1).toNat * 7)).off + 1, none⟩ = some (.int .i64 ((rd_T48 l0 x4_1).f1)) ∧ w'.cell? ⟨(ad305.add ((x4_1).toNat * 7)).block, (ad305.add ((x4_1).toNat * 7)).off + 2, none⟩ = some (.int .i64 ((rd_T48 l0 x4_1).f2)) ∧ w'.cell? ⟨(ad305.add ((x4_1).toNat * 7)).block, (ad305.add ((x4_1).toNat * 7)).off + 3, none⟩ = some (.int .i64 ((rd_T48 l0 x4_1).f3)) ∧ w'.cell? ⟨(ad305.add ((x4_1).toNat * 7)).block, (ad305.add ((x4_1).toNat * 7)).off + 4, none⟩ = some (.int .i64 ((rd_T48 l0 x4_1).f4)) ∧ w'.cell? ⟨(ad305.add ((x4_1).toNat * 7)).block, (ad305.add ((x4_1).toNat * 7)).off + 5, none⟩ = some (.string ((rd_T48 l0 x4_1).f5)) ∧ w'.cell? ⟨(ad305.add ((x4_1).toNat * 7)).block, (ad305.add ((x4_1).toNat * 7)).off + 6, none⟩ = some (.int .i64 ((rd_T48 l0 x4_1).f6)) ∧ w'.cell? (ad305.add (((ji8)).toNat * 7)) = some (.int .i64 ((rd_T48 l0 (ji8)).f0)) ∧ w'.cell? ⟨(ad305.add (((ji8)).toNat * 7)).block, (ad305.add (((ji8)).toNat * 7)).off + 1, none⟩ = some (.int .i64 ((rd_T48 l0 (ji8)).f1)) ∧ w'.cell? ⟨(ad305.add (((ji8)).toNat * 7)).block, (ad305.add (((ji8)).toNat * 7)).off + 2, none⟩ = some (.int .i64 ((rd_T48 l0 (ji8)).f2)) ∧ w'.cell? ⟨(ad305.add (((ji8)).toNat * 7)).block, (ad305.add (((ji8)).toNat * 7)).off + 3, none⟩ = some (.int .i64 ((rd_T48 l0 (ji8)).f3)) ∧ w'.cell? ⟨(ad305.add (((ji8)).toNat * 7)).block, (ad305.add (((ji8)).toNat * 7)).off + 4, none⟩ = some (.int .i64 ((rd_T48 l0 (ji8)).f4)) ∧ w'.cell? ⟨(ad305.add (((ji8)).toNat * 7)).block, (ad305.add (((ji8)).toNat * 7)).off + 5, none⟩ = some (.string ((rd_T48 l0 (ji8)).f5)) ∧ w'.cell? ⟨(ad305.add (((ji8)).toNat * 7)).block, (ad305.add (((ji8)).toNat * 7)).off + 6, none⟩ = some (.int .i64 ((rd_T48 l0 (ji8)).f6)) ∧ w'.cell? (ad305.add ((x4_1).toNat * 7)) = some (.int .i64 ((rd_T48 l0 x4_1).f0)) ∧ w'.cell? ⟨(ad305.add ((x4_1).toNat * 7)).block, (ad305.add ((x4_1).toNat * 7)).off + 1, none⟩ = some (.int .i64 ((rd_T48 l0 x4_1).f1)) ∧ w'.cell? ⟨(ad305.add ((x4_1).toNat * 7)).block, (ad305.add ((x4_1).toNat * 7)).off + 2, none⟩ = some (.int .i64 ((rd_T48 l0 x4_1).f2)) ∧ w'.cell? ⟨(ad305.add ((x4_1).toNat * 7)).block, (ad305.add ((x4_1).toNat * 7)).off + 3, none⟩ = some (.int .i64 ((rd_T48 l0 x4_1).f3)) ∧ w'.cell? ⟨(ad305.add ((x4_1).toNat * 7)).block, (ad305.add ((x4_1).toNat * 7)).off + 4, none⟩ = some (.int .i64 ((rd_T48 l0 x4_1).f4)) ∧ w'.cell? ⟨(ad305.add ((x4_1).toNat * 7)).block, (ad305.add ((x4_1).toNat * 7)).off + 5, none⟩ = some (.string ((rd_T48 l0 x4_1).f5)) ∧ w'.cell? ⟨(ad305.add ((x4_1).toNat * 7)).block, (ad305.add ((x4_1).toNat * 7)).off + 6, none⟩ = some (.int .i64 ((rd_T48 l0 x4_1).f6))) (ds := []) (bsq 0 45) (by kernel_rfl) rfl rfl ⟨((HB.out.cell (World.block_lt_of_cell? w _ hw305_0)).trans hw305_0), ((HB.out.cell (World.block_lt_of_cell? w _ hw305_1)).trans hw305_1), ((HB.out.cell (World.block_lt_of_cell? w _ hw305_2)).trans hw305_2), ((HB.out.cell (World.block_lt_of_cell? w _ hw305_3)).trans hw305_3), ((HB.out.cell (World.block_lt_of_cell? w _ hw305_4)).trans hw305_4), ((HB.out.cell (World.block_lt_of_cell? w _ hw305_5)).trans hw305_5), ((HB.out.cell (World.block_lt_of_cell? w _ hw305_6)).trans hw305_6), ((HB.out.cell (World.block_lt_of_cell? w _ hw307_0)).trans hw307_0), ((HB.out.cell (World.block_lt_of_cell? w _ hw307_1)).trans hw307_1), ((HB.out.cell (World.block_lt_of_cell? w _ hw307_2)).trans hw307_2), ((HB.out.cell (World.block_lt_of_cell? w _ hw307_3)).trans hw307_3), ((HB.out.cell (World.block_lt_of_cell? w _ hw307_4)).trans hw307_4), ((HB.out.cell (World.block_lt_of_cell? w _ hw307_5)).trans hw307_5), ((HB.out.cell (World.block_lt_of_cell? w _ hw307_6)).trans hw307_6), ((HB.out.cell (World.block_lt_of_cell? w _ hw309_0)).trans hw309_0), ((HB.out.cell (World.block_lt_of_cell? w _ hw309_1)).trans hw309_1), ((HB.out.cell (World.block_lt_of_cell? w _ hw309_2)).trans hw309_2), ((HB.out.cell (World.block_lt_of_cell? w _ hw309_3)).trans hw309_3), ((HB.out.cell (World.block_lt_of_cell? w _ hw309_4)).trans hw309_4), ((HB.out.cell (World.block_lt_of_cell? w _ hw309_5)).trans hw309_5), ((HB.out.cell (World.block_lt_of_cell? w _ hw309_6)).trans hw309_6), ((HB.out.cell (World.block_lt_of_cell? w _ hw310_0)).trans hw310_0), ((HB.out.cell (World.block_lt_of_cell? w _ hw310_1)).trans hw310_1), ((HB.out.cell (World.block_lt_of_cell? w _ hw310_2)).trans hw310_2), ((HB.out.cell (World.block_lt_of_cell? w _ hw310_3)).trans hw310_3), ((HB.out.cell (World.block_lt_of_cell? w _ hw310_4)).trans hw310_4), ((HB.out.cell (World.block_lt_of_cell? w _ hw310_5)).trans hw310_5), ((HB.out.cell (World.block_lt_of_cell? w _ hw310_6)).trans hw310_6)⟩ (fun hHeld => ?_); refine with_tabW signalbenchref14_Merge.tab5 signalbenchref14_Merge.bits5 (fun HT_ HW_ => ?_)
              generalize wr.drew = w34 at HO_3 HB hx305_0 hx305_1 hx305_2 hx305_3 hx305_4 hx305_5 hx305_6 hx307_0 hx307_1 hx307_2 hx307_3 hx307_4 hx307_5 hx307_6 hx309_0 hx309_1 hx309_2 hx309_3 hx309_4 hx309_5 hx309_6 hx310_0 hx310_1 hx310_2 hx310_3 hx310_4 hx310_5 hx310_6 hHeld ⊢
              refine pu 0 14 (bsq 1 44) ?_
              refine pu 1 15 (bsq 2 43) ?_
              refine pu 2 16 (bsq 3 42) ?_
              refine pu 3 17 (bsq 4 41) ?_
              refine pu 4 18 (bsq 5 40) ?_
              refine pu 5 19 (bsq 6 39) ?_
              refine pu 6 20 (bsq 7 38) ?_
              refine tk 7 21 (bsq 8 37) hHeld ?_ (he := by rintro w' ⟨s0, s1, s2, s3, s4, s5, s6, s7, s8, s9, s10, s11, s12, s13, s14, s15, s16, s17, s18, s19, s20, s21, s22, s23, s24, s25, s26, s27⟩; go_simp; with_reducible rfl)
              refine one_ (i := 8) (N := some 22) (bsq 9 36) rfl rfl (one_of HT_.out (by kernel_rfl)) (by decide) (fun K hK => ?_)
              refine goes_ Try.func31 (by kernel_rfl) rfl #[.agg #[.int .i64 ((rd_T48 l0 (ji8)).f0), .int .i64 ((rd_T48 l0 (ji8)).f1), .int .i64 ((rd_T48 l0 (ji8)).f2), .int .i64 ((rd_T48 l0 (ji8)).f3), .int .i64 ((rd_T48 l0 (ji8)).f4), .string ((rd_T48 l0 (ji8)).f5), .int .i64 ((rd_T48 l0 (ji8)).f6)]] (by rfl) rfl rfl (by (try simp only [List.map_toArray, List.map_cons, List.map_nil]); first | done | (simp only [hji8]; rfl) | rfl | (simp only [List.length_drop, List.length_take]; rfl)) ?_
              with_reducible refine (signalbenchref14_Plain.calls ((rd_T48 l0 (ji8)).f0) ((rd_T48 l0 (ji8)).f1) ((rd_T48 l0 (ji8)).f2) ((rd_T48 l0 (ji8)).f3) ((rd_T48 l0 (ji8)).f4) ((rd_T48 l0 (ji8)).f5) ((rd_T48 l0 (ji8)).f6) true _ A11.out).mono ?_
              rintro e w35 ⟨rfl, hb⟩
              refine ⟨_, rfl, ?_⟩
              have n0_ := Aside0.mk (Kd.R_below (rq HO_3.out) hb)
              have n1_ := Aside0.mk (below_step (bs HB.out) hb)
              clear HO_3
              clear HB
              have HO_3 := n0_
              have HB := n1_
              clear n0_ n1_
              (try clear hb)
              (try clear hb2)
              (try clear hk)
              (try clear hi)
              refine hK.out _ _ ⟨((HB.out.cell (World.block_lt_of_cell? w _ hw305_0)).trans hw305_0), ((HB.out.cell (World.block_lt_of_cell? w _ hw305_1)).trans hw305_1), ((HB.out.cell (World.block_lt_of_cell? w _ hw305_2)).trans hw305_2), ((HB.out.cell (World.block_lt_of_cell? w _ hw305_3)).trans hw305_3), ((HB.out.cell (World.block_lt_of_cell? w _ hw305_4)).trans hw305_4), ((HB.out.cell (World.block_lt_of_cell? w _ hw305_5)).trans hw305_5), ((HB.out.cell (World.block_lt_of_cell? w _ hw305_6)).trans hw305_6), ((HB.out.cell (World.block_lt_of_cell? w _ hw307_0)).trans hw307_0), ((HB.out.cell (World.block_lt_of_cell? w _ hw307_1)).trans hw307_1), ((HB.out.cell (World.block_lt_of_cell? w _ hw307_2)).trans hw307_2), ((HB.out.cell (World.block_lt_of_cell? w _ hw307_3)).trans hw307_3), ((HB.out.cell (World.block_lt_of_cell? w _ hw307_4)).trans hw307_4), ((HB.out.cell (World.block_lt_of_cell? w _ hw307_5)).trans hw307_5), ((HB.out.cell (World.block_lt_of_cell? w _ hw307_6)).trans hw307_6), ((HB.out.cell (World.block_lt_of_cell? w _ hw309_0)).trans hw309_0), ((HB.out.cell (World.block_lt_of_cell? w _ hw309_1)).trans hw309_1), ((HB.out.cell (World.block_lt_of_cell? w _ hw309_2)).trans hw309_2), ((HB.out.cell (World.block_lt_of_cell? w _ hw309_3)).trans hw309_3), ((HB.out.cell (World.block_lt_of_cell? w _ hw309_4)).trans hw309_4), ((HB.out.cell (World.block_lt_of_cell? w _ hw309_5)).trans hw309_5), ((HB.out.cell (World.block_lt_of_cell? w _ hw309_6)).trans hw309_6), ((HB.out.cell (World.block_lt_of_cell? w _ hw310_0)).trans hw310_0), ((HB.out.cell (World.block_lt_of_cell? w _ hw310_1)).trans hw310_1), ((HB.out.cell (World.block_lt_of_cell? w _ hw310_2)).trans hw310_2), ((HB.out.cell (World.block_lt_of_cell? w _ hw310_3)).trans hw310_3), ((HB.out.cell (World.block_lt_of_cell? w _ hw310_4)).trans hw310_4), ((HB.out.cell (World.block_lt_of_cell? w _ hw310_5)).trans hw310_5), ((HB.out.cell (World.block_lt_of_cell? w _ hw310_6)).trans hw310_6)⟩ (fun hHeld => ?_)
              clear hK K
              refine norm_ (a' := ?_) ?_ ?_
              rotate_left
              ·
               show Act.put _ (some 22) _ = _
               simp only [Act.put, List.setIfInBounds_toArray, List.set_cons_zero, List.set_cons_succ, i64_w, i32_w]
               rfl
              refine pu 9 23 (bsq 10 35) ?_
              refine pu 10 24 (bsq 11 34) ?_
              refine pu 11 25 (bsq 12 33) ?_
              refine pu 12 26 (bsq 13 32) ?_
              refine pu 13 27 (bsq 14 31) ?_
              refine tk 14 28 (bsq 15 30) hHeld ?_ (he := by rintro w' ⟨s0, s1, s2, s3, s4, s5, s6, s7, s8, s9, s10, s11, s12, s13, s14, s15, s16, s17, s18, s19, s20, s21, s22, s23, s24, s25, s26, s27⟩; go_simp; with_reducible rfl)
              refine one_ (i := 15) (N := some 29) (bsq 16 29) rfl rfl (one_of HT_.out (by kernel_rfl)) (by decide) (fun K hK => ?_)
              refine goes_ Try.func31 (by kernel_rfl) rfl #[.agg #[.int .i64 ((rd_T48 l0 x4_1).f0), .int .i64 ((rd_T48 l0 x4_1).f1), .int .i64 ((rd_T48 l0 x4_1).f2), .int .i64 ((rd_T48 l0 x4_1).f3), .int .i64 ((rd_T48 l0 x4_1).f4), .string ((rd_T48 l0 x4_1).f5), .int .i64 ((rd_T48 l0 x4_1).f6)]] (by rfl) rfl rfl (by (try simp only [List.map_toArray, List.map_cons, List.map_nil]); first | done | rfl | (simp only [List.length_drop, List.length_take]; rfl)) ?_
              with_reducible refine (signalbenchref14_Plain.calls ((rd_T48 l0 x4_1).f0) ((rd_T48 l0 x4_1).f1) ((rd_T48 l0 x4_1).f2) ((rd_T48 l0 x4_1).f3) ((rd_T48 l0 x4_1).f4) ((rd_T48 l0 x4_1).f5) ((rd_T48 l0 x4_1).f6) true _ A14.out).mono ?_
              rintro e w36 ⟨rfl, hb⟩
              refine ⟨_, rfl, ?_⟩
              have n0_ := Aside0.mk (Kd.R_below (rq HO_3.out) hb)
              have n1_ := Aside0.mk (below_step (bs HB.out) hb)
              clear HO_3
              clear HB
              have HO_3 := n0_
              have HB := n1_
              clear n0_ n1_
              (try clear hb)
              (try clear hb2)
              (try clear hk)
              (try clear hi)
              refine hK.out _ _ ⟨((HB.out.cell (World.block_lt_of_cell? w _ hw305_0)).trans hw305_0), ((HB.out.cell (World.block_lt_of_cell? w _ hw305_1)).trans hw305_1), ((HB.out.cell (World.block_lt_of_cell? w _ hw305_2)).trans hw305_2), ((HB.out.cell (World.block_lt_of_cell? w _ hw305_3)).trans hw305_3), ((HB.out.cell (World.block_lt_of_cell? w _ hw305_4)).trans hw305_4), ((HB.out.cell (World.block_lt_of_cell? w _ hw305_5)).trans hw305_5), ((HB.out.cell (World.block_lt_of_cell? w _ hw305_6)).trans hw305_6), ((HB.out.cell (World.block_lt_of_cell? w _ hw307_0)).trans hw307_0), ((HB.out.cell (World.block_lt_of_cell? w _ hw307_1)).trans hw307_1), ((HB.out.cell (World.block_lt_of_cell? w _ hw307_2)).trans hw307_2), ((HB.out.cell (World.block_lt_of_cell? w _ hw307_3)).trans hw307_3), ((HB.out.cell (World.block_lt_of_cell? w _ hw307_4)).trans hw307_4), ((HB.out.cell (World.block_lt_of_cell? w _ hw307_5)).trans hw307_5), ((HB.out.cell (World.block_lt_of_cell? w _ hw307_6)).trans hw307_6), ((HB.out.cell (World.block_lt_of_cell? w _ hw309_0)).trans hw309_0), ((HB.out.cell (World.block_lt_of_cell? w _ hw309_1)).trans hw309_1), ((HB.out.cell (World.block_lt_of_cell? w _ hw309_2)).trans hw309_2), ((HB.out.cell (World.block_lt_of_cell? w _ hw309_3)).trans hw309_3), ((HB.out.cell (World.block_lt_of_cell? w _ hw309_4)).trans hw309_4), ((HB.out.cell (World.block_lt_of_cell? w _ hw309_5)).trans hw309_5), ((HB.out.cell (World.block_lt_of_cell? w _ hw309_6)).trans hw309_6), ((HB.out.cell (World.block_lt_of_cell? w _ hw310_0)).trans hw310_0), ((HB.out.cell (World.block_lt_of_cell? w _ hw310_1)).trans hw310_1), ((HB.out.cell (World.block_lt_of_cell? w _ hw310_2)).trans hw310_2), ((HB.out.cell (World.block_lt_of_cell? w _ hw310_3)).trans hw310_3), ((HB.out.cell (World.block_lt_of_cell? w _ hw310_4)).trans hw310_4), ((HB.out.cell (World.block_lt_of_cell? w _ hw310_5)).trans hw310_5), ((HB.out.cell (World.block_lt_of_cell? w _ hw310_6)).trans hw310_6)⟩ (fun hHeld => ?_)
              clear hK K
              refine norm_ (a' := ?_) ?_ ?_
              rotate_left
              ·
               show Act.put _ (some 29) _ = _
               simp only [Act.put, List.setIfInBounds_toArray, List.set_cons_zero, List.set_cons_succ, i64_w, i32_w]
               rfl
              refine pu 16 30 (bsq 17 28) ?_
              refine pu 17 31 (bsq 18 27) ?_
              refine pu 18 32 (bsq 19 26) ?_
              refine pu 19 33 (bsq 20 25) ?_
              refine pu 20 34 (bsq 21 24) ?_
              refine pu 21 35 (bsq 22 23) ?_
              refine pu 22 36 (bsq 23 22) ?_
              refine pu 24 38 (bls [23, 1, 1, 20]) ?_
              refine pu 25 39 (bls [23, 1, 2, 19]) ?_
              refine pu 26 40 (bls [23, 1, 3, 18]) ?_
              refine pu 27 41 (bls [23, 1, 4, 17]) ?_
              refine tk 23 37 (bsq 28 17) hHeld ?_ (he := by rintro w' ⟨s0, s1, s2, s3, s4, s5, s6, s7, s8, s9, s10, s11, s12, s13, s14, s15, s16, s17, s18, s19, s20, s21, s22, s23, s24, s25, s26, s27⟩; go_simp; with_reducible rfl)
              refine tk 28 42 (bsq 29 16) hHeld ?_ (he := by rintro w' ⟨s0, s1, s2, s3, s4, s5, s6, s7, s8, s9, s10, s11, s12, s13, s14, s15, s16, s17, s18, s19, s20, s21, s22, s23, s24, s25, s26, s27⟩; go_simp; with_reducible rfl)
              refine pu 29 43 (bsq 30 15) ?_
              refine pu 30 44 (bsq 31 14) ?_
              refine pu 31 45 (bsq 32 13) ?_
              refine un 32 46 (bsq 33 12) ?_
              refine un 33 47 (bsq 34 11) ?_
              refine un 34 48 (bsq 35 10) ?_
              refine un 35 49 (bsq 36 9) ?_
              refine un 36 50 (bsq 37 8) ?_
              refine un 37 51 (bsq 38 7) ?_
              refine un 38 52 (bsq 39 6) ?_
              refine un 39 53 (bsq 40 5) ?_
              refine un 40 54 (bsq 41 4) ?_
              refine un 41 55 (bsq 42 3) ?_
              refine un 42 56 (bsq 43 2) ?_
              refine un 43 57 (bsq 44 1) ?_
              refine pu 44 58 (bsq 45 0) ?_
              refine done_ (done_of HT_.out (by kernel_rfl)) ?_
              have p319 : 0 ≤ (x4_1 : Int) := of_decide_eq_true (by first | (with_reducible assumption) | assumption)
              have q319 : x4_1 < (l0.length : Int) := of_decide_eq_true (by first | (with_reducible assumption) | assumption)
              obtain ⟨ad319, e319, hx319_0, hx319_1, hx319_2, hx319_3, hx319_4, hx319_5, hx319_6⟩ := at_T48 HR0.out x4_1 p319 q319
              obtain rfl : ad305 = ad319 := (by injection e319)
              replace hx319_0 := pw_cell_below HB.out hx319_0
              replace hx319_1 := pw_cell_below HB.out hx319_1
              replace hx319_2 := pw_cell_below HB.out hx319_2
              replace hx319_3 := pw_cell_below HB.out hx319_3
              replace hx319_4 := pw_cell_below HB.out hx319_4
              replace hx319_5 := pw_cell_below HB.out hx319_5
              replace hx319_6 := pw_cell_below HB.out hx319_6
              replace p319 := eq_true p319
              replace q319 := eq_true q319
              try go_wp2_with (first | ((with_reducible refine gate_builtin (b := .append) (xs := #[.tmp 70, .tmp 75]) rfl ?_); at_builtin; refine Kd.R_append k48 (w0 := w) w.heap.size rfl (.tmp 70) (.tmp 75) 26 48 (.agg #[(.int .i64 0), (.int .i64 0), (.int .i64 0), (.int .i64 0), (.int .i64 0), (.string ⟨#[]⟩), (.int .i64 0)]) 64 rfl Try.underlying26 info48 rfl (by decide) (by omega) u3 x3_1 (⟨(rd_T48 l0 x4_1).f0, (rd_T48 l0 x4_1).f1, (rd_T48 l0 x4_1).f2, (rd_T48 l0 x4_1).f3, (rd_T48 l0 x4_1).f4, (rd_T48 l0 x4_1).f5, (rd_T48 l0 x4_1).f6⟩ : S48) [.int .i64 ((rd_T48 l0 x4_1).f0), .int .i64 ((rd_T48 l0 x4_1).f1), .int .i64 ((rd_T48 l0 x4_1).f2), .int .i64 ((rd_T48 l0 x4_1).f3), .int .i64 ((rd_T48 l0 x4_1).f4), .string ((rd_T48 l0 x4_1).f5), .int .i64 ((rd_T48 l0 x4_1).f6)] (fun _ => True) (fun _ => False) rfl rfl ?aP (fun _ hk => hk.elim) ?aF ?aO ?aB ?aS ?aL ?_; (case aP => exact k48_mkM _ _ _ (⟨(rd_T48 l0 x4_1).f0, (rd_T48 l0 x4_1).f1, (rd_T48 l0 x4_1).f2, (rd_T48 l0 x4_1).f3, (rd_T48 l0 x4_1).f4, (rd_T48 l0 x4_1).f5, (rd_T48 l0 x4_1).f6⟩ : S48)); (case aB => exact (bs HB.out)); (case aF => exact (fun _ _ => trivial)); (case aO => exact (rq HO_3.out)); (case aS => exact (below_size (bs HB.out))); (case aL => have := LMc33.out; omega); intro v321 w37 ho hb hg hat; rw [← Ny320.out] at ho; have n0_ := Aside0.mk (hb); have n1_ := Aside0.mk (ho); clear HB; clear HO_3; have HB := n0_; have HO322 := n1_; clear n0_ n1_; clear ho hb hg hat))
              go_roundg k1
              case measure => have := HK1.out; omega
              case rel => exact ⟨(y320), (wrap64 (x4_1 + 1)), (by first | rfl | (simp; done) | (simp [*]; done)), H', ⟨by have := HK1.out; omega⟩, ⟨by (with_reducible repeat (first | apply Kd.R_alloc | apply Kd.R_drewN | apply Kd.R_drew)); exact HO322.out⟩, ⟨bs HB.out⟩⟩
             ·
              rw [if_neg c33] at H
              exact absurd H (by simp)
           ·
            replace c15 := Bool.eq_false_iff.mpr c15
            subst c15
            have H1 : (if x3_1.length < 2199023255552 then (signalbenchref14_Merge.l0 k1 l0 (x3_1 ++ [(⟨(rd_T48 l0 x4_1).f0, (rd_T48 l0 x4_1).f1, (rd_T48 l0 x4_1).f2, (rd_T48 l0 x4_1).f3, (rd_T48 l0 x4_1).f4, (rd_T48 l0 x4_1).f5, (rd_T48 l0 x4_1).f6⟩ : S48)]) (wrap64 (x4_1 + 1))) else (none)) = some r := by rw [if_neg (show ¬ (false = true) by decide)] at H; exact H
            clear H
            have H := H1
            clear H1
            by_cases c38 : x3_1.length < 2199023255552
            ·
             rw [if_pos c38] at H
             have LMc38 := Aside0.mk c38
             clear c38
             obtain ⟨y324, hy324⟩ : ∃ y_ : List (S48), y_ = (x3_1 ++ [(⟨(rd_T48 l0 x4_1).f0, (rd_T48 l0 x4_1).f1, (rd_T48 l0 x4_1).f2, (rd_T48 l0 x4_1).f3, (rd_T48 l0 x4_1).f4, (rd_T48 l0 x4_1).f5, (rd_T48 l0 x4_1).f6⟩ : S48)]) := ⟨_, rfl⟩
             replace H : (signalbenchref14_Merge.l0 k1 l0 y324 (wrap64 (x4_1 + 1))) = some r := by first | (rw [hy324]; with_reducible exact H) | (have H2_ := (Option.bind_some _ _).symm.trans H; rw [hy324]; with_reducible exact H2_) | (have H2_ := (Option.bind_some _ _).symm.trans H; with_reducible exact H2_) | with_reducible exact H | (rw [hy324]; exact H) | exact H
             have Ny324 := Aside0.mk hy324
             clear hy324
             have H' := Aside0.mk H
             clear H
             try go_wp2
             have n0_ := Aside0.mk (Kd.R_drew HO_3.out)
             have n1_ := Aside0.mk (below_drew1 HB.out)
             clear HO_3
             clear HB
             have HO_3 := n0_
             have HB := n1_
             clear n0_ n1_
             have p305 : 0 ≤ ((ji8) : Int) := of_decide_eq_true (by first | (with_reducible assumption) | assumption)
             have q305 : (ji8) < (l0.length : Int) := of_decide_eq_true (by first | (with_reducible assumption) | assumption)
             obtain ⟨ad305, e305, hx305_0, hx305_1, hx305_2, hx305_3, hx305_4, hx305_5, hx305_6⟩ := at_T48 HR0.out (ji8) p305 q305
             have hw305_6 := hx305_6
             have hw305_5 := hx305_5
             have hw305_4 := hx305_4
             have hw305_3 := hx305_3
             have hw305_2 := hx305_2
             have hw305_1 := hx305_1
             have hw305_0 := hx305_0
             cases e305
             replace hx305_0 := pw_cell_below HB.out hx305_0
             replace hx305_1 := pw_cell_below HB.out hx305_1
             replace hx305_2 := pw_cell_below HB.out hx305_2
             replace hx305_3 := pw_cell_below HB.out hx305_3
             replace hx305_4 := pw_cell_below HB.out hx305_4
             replace hx305_5 := pw_cell_below HB.out hx305_5
             replace hx305_6 := pw_cell_below HB.out hx305_6
             replace p305 := eq_true p305
             replace q305 := eq_true q305
             have p307 : 0 ≤ (x4_1 : Int) := of_decide_eq_true (by first | (with_reducible assumption) | assumption)
             have q307 : x4_1 < (l0.length : Int) := of_decide_eq_true (by first | (with_reducible assumption) | assumption)
             obtain ⟨ad307, e307, hx307_0, hx307_1, hx307_2, hx307_3, hx307_4, hx307_5, hx307_6⟩ := at_T48 HR0.out x4_1 p307 q307
             have hw307_6 := hx307_6
             have hw307_5 := hx307_5
             have hw307_4 := hx307_4
             have hw307_3 := hx307_3
             have hw307_2 := hx307_2
             have hw307_1 := hx307_1
             have hw307_0 := hx307_0
             obtain rfl : ad305 = ad307 := (by injection e307)
             replace hx307_0 := pw_cell_below HB.out hx307_0
             replace hx307_1 := pw_cell_below HB.out hx307_1
             replace hx307_2 := pw_cell_below HB.out hx307_2
             replace hx307_3 := pw_cell_below HB.out hx307_3
             replace hx307_4 := pw_cell_below HB.out hx307_4
             replace hx307_5 := pw_cell_below HB.out hx307_5
             replace hx307_6 := pw_cell_below HB.out hx307_6
             replace p307 := eq_true p307
             replace q307 := eq_true q307
             refine start_ (n := 45) (S := fun w' => w'.cell? (ad305.add (((ji8)).toNat * 7)) = some (.int .i64 ((rd_T48 l0 (ji8)).f0)) ∧ w'.cell? ⟨(ad305.add (((ji8)).toNat * 7)).block, (ad305.add (((ji8)).toNat * 7)).off + 1, none⟩ = some (.int .i64 ((rd_T48 l0 (ji8)).f1)) ∧ w'.cell? ⟨(ad305.add (((ji8)).toNat * 7)).block, (ad305.add (((ji8)).toNat * 7)).off + 2, none⟩ = some (.int .i64 ((rd_T48 l0 (ji8)).f2)) ∧ w'.cell? ⟨(ad305.add (((ji8)).toNat * 7)).block, (ad305.add (((ji8)).toNat * 7)).off + 3, none⟩ = some (.int .i64 ((rd_T48 l0 (ji8)).f3)) ∧ w'.cell? ⟨(ad305.add (((ji8)).toNat * 7)).block, (ad305.add (((ji8)).toNat * 7)).off + 4, none⟩ = some (.int .i64 ((rd_T48 l0 (ji8)).f4)) ∧ w'.cell? ⟨(ad305.add (((ji8)).toNat * 7)).block, (ad305.add (((ji8)).toNat * 7)).off + 5, none⟩ = some (.string ((rd_T48 l0 (ji8)).f5)) ∧ w'.cell? ⟨(ad305.add (((ji8)).toNat * 7)).block, (ad305.add (((ji8)).toNat * 7)).off + 6, none⟩ = some (.int .i64 ((rd_T48 l0 (ji8)).f6)) ∧ w'.cell? (ad305.add ((x4_1).toNat * 7)) = some (.int .i64 ((rd_T48 l0 x4_1).f0)) ∧ w'.cell? ⟨(ad305.add ((x4_1).toNat * 7)).block, (ad305.add ((x4_1).toNat * 7)).off + 1, none⟩ = some (.int .i64 ((rd_T48 l0 x4_1).f1)) ∧ w'.cell? ⟨(ad305.add ((x4_1).toNat * 7)).block, (ad305.add ((x4_1).toNat * 7)).off + 2, none⟩ = some (.int .i64 ((rd_T48 l0 x4_1).f2)) ∧ w'.cell? ⟨(ad305.add ((x4_1).toNat * 7)).block, (ad305.add ((x4_1).toNat * 7)).off + 3, none⟩ = some (.int .i64 ((rd_T48 l0 x4_1).f3)) ∧ w'.cell? ⟨(ad305.add ((x4_1).toNat * 7)).block, (ad305.add ((x4_1).toNat * 7)).off + 4, none⟩ = some (.int .i64 ((rd_T48 l0 x4_1).f4)) ∧ w'.cell? ⟨(ad305.add ((x4_1).toNat * 7)).block, (ad305.add ((x4_1).toNat * 7)).off + 5, none⟩ = some (.string ((rd_T48 l0 x4_1).f5)) ∧ w'.cell? ⟨(ad305.add ((x4_1).toNat * 7)).block, (ad305.add ((x4_1).toNat * 7)).off + 6, none⟩ = some (.int .i64 ((rd_T48 l0 x4_1).f6))) (ds := []) (bsq 0 45) (by kernel_rfl) rfl rfl ⟨((HB.out.cell (World.block_lt_of_cell? w _ hw305_0)).trans hw305_0), ((HB.out.cell (World.block_lt_of_cell? w _ hw305_1)).trans hw305_1), ((HB.out.cell (World.block_lt_of_cell? w _ hw305_2)).trans hw305_2), ((HB.out.cell (World.block_lt_of_cell? w _ hw305_3)).trans hw305_3), ((HB.out.cell (World.block_lt_of_cell? w _ hw305_4)).trans hw305_4), ((HB.out.cell (World.block_lt_of_cell? w _ hw305_5)).trans hw305_5), ((HB.out.cell (World.block_lt_of_cell? w _ hw305_6)).trans hw305_6), ((HB.out.cell (World.block_lt_of_cell? w _ hw307_0)).trans hw307_0), ((HB.out.cell (World.block_lt_of_cell? w _ hw307_1)).trans hw307_1), ((HB.out.cell (World.block_lt_of_cell? w _ hw307_2)).trans hw307_2), ((HB.out.cell (World.block_lt_of_cell? w _ hw307_3)).trans hw307_3), ((HB.out.cell (World.block_lt_of_cell? w _ hw307_4)).trans hw307_4), ((HB.out.cell (World.block_lt_of_cell? w _ hw307_5)).trans hw307_5), ((HB.out.cell (World.block_lt_of_cell? w _ hw307_6)).trans hw307_6)⟩ (fun hHeld => ?_); refine with_tabW signalbenchref14_Merge.tab5 signalbenchref14_Merge.bits5 (fun HT_ HW_ => ?_)
             generalize wr.drew = w39 at HO_3 HB hx305_0 hx305_1 hx305_2 hx305_3 hx305_4 hx305_5 hx305_6 hx307_0 hx307_1 hx307_2 hx307_3 hx307_4 hx307_5 hx307_6 hHeld ⊢
             refine pu 0 14 (bsq 1 44) ?_
             refine pu 1 15 (bsq 2 43) ?_
             refine pu 2 16 (bsq 3 42) ?_
             refine pu 3 17 (bsq 4 41) ?_
             refine pu 4 18 (bsq 5 40) ?_
             refine pu 5 19 (bsq 6 39) ?_
             refine pu 6 20 (bsq 7 38) ?_
             refine tk 7 21 (bsq 8 37) hHeld ?_ (he := by rintro w' ⟨s0, s1, s2, s3, s4, s5, s6, s7, s8, s9, s10, s11, s12, s13⟩; go_simp; with_reducible rfl)
             refine one_ (i := 8) (N := some 22) (bsq 9 36) rfl rfl (one_of HT_.out (by kernel_rfl)) (by decide) (fun K hK => ?_)
             refine goes_ Try.func31 (by kernel_rfl) rfl #[.agg #[.int .i64 ((rd_T48 l0 (ji8)).f0), .int .i64 ((rd_T48 l0 (ji8)).f1), .int .i64 ((rd_T48 l0 (ji8)).f2), .int .i64 ((rd_T48 l0 (ji8)).f3), .int .i64 ((rd_T48 l0 (ji8)).f4), .string ((rd_T48 l0 (ji8)).f5), .int .i64 ((rd_T48 l0 (ji8)).f6)]] (by rfl) rfl rfl (by (try simp only [List.map_toArray, List.map_cons, List.map_nil]); first | done | (simp only [hji8]; rfl) | rfl | (simp only [List.length_drop, List.length_take]; rfl)) ?_
             with_reducible refine (signalbenchref14_Plain.calls ((rd_T48 l0 (ji8)).f0) ((rd_T48 l0 (ji8)).f1) ((rd_T48 l0 (ji8)).f2) ((rd_T48 l0 (ji8)).f3) ((rd_T48 l0 (ji8)).f4) ((rd_T48 l0 (ji8)).f5) ((rd_T48 l0 (ji8)).f6) true _ A11.out).mono ?_
             rintro e w40 ⟨rfl, hb⟩
             refine ⟨_, rfl, ?_⟩
             have n0_ := Aside0.mk (Kd.R_below (rq HO_3.out) hb)
             have n1_ := Aside0.mk (below_step (bs HB.out) hb)
             clear HO_3
             clear HB
             have HO_3 := n0_
             have HB := n1_
             clear n0_ n1_
             (try clear hb)
             (try clear hb2)
             (try clear hk)
             (try clear hi)
             refine hK.out _ _ ⟨((HB.out.cell (World.block_lt_of_cell? w _ hw305_0)).trans hw305_0), ((HB.out.cell (World.block_lt_of_cell? w _ hw305_1)).trans hw305_1), ((HB.out.cell (World.block_lt_of_cell? w _ hw305_2)).trans hw305_2), ((HB.out.cell (World.block_lt_of_cell? w _ hw305_3)).trans hw305_3), ((HB.out.cell (World.block_lt_of_cell? w _ hw305_4)).trans hw305_4), ((HB.out.cell (World.block_lt_of_cell? w _ hw305_5)).trans hw305_5), ((HB.out.cell (World.block_lt_of_cell? w _ hw305_6)).trans hw305_6), ((HB.out.cell (World.block_lt_of_cell? w _ hw307_0)).trans hw307_0), ((HB.out.cell (World.block_lt_of_cell? w _ hw307_1)).trans hw307_1), ((HB.out.cell (World.block_lt_of_cell? w _ hw307_2)).trans hw307_2), ((HB.out.cell (World.block_lt_of_cell? w _ hw307_3)).trans hw307_3), ((HB.out.cell (World.block_lt_of_cell? w _ hw307_4)).trans hw307_4), ((HB.out.cell (World.block_lt_of_cell? w _ hw307_5)).trans hw307_5), ((HB.out.cell (World.block_lt_of_cell? w _ hw307_6)).trans hw307_6)⟩ (fun hHeld => ?_)
             clear hK K
             refine norm_ (a' := ?_) ?_ ?_
             rotate_left
             ·
              show Act.put _ (some 22) _ = _
              simp only [Act.put, List.setIfInBounds_toArray, List.set_cons_zero, List.set_cons_succ, i64_w, i32_w]
              rfl
             refine pu 9 23 (bsq 10 35) ?_
             refine pu 10 24 (bsq 11 34) ?_
             refine pu 11 25 (bsq 12 33) ?_
             refine pu 12 26 (bsq 13 32) ?_
             refine pu 13 27 (bsq 14 31) ?_
             refine tk 14 28 (bsq 15 30) hHeld ?_ (he := by rintro w' ⟨s0, s1, s2, s3, s4, s5, s6, s7, s8, s9, s10, s11, s12, s13⟩; go_simp; with_reducible rfl)
             refine one_ (i := 15) (N := some 29) (bsq 16 29) rfl rfl (one_of HT_.out (by kernel_rfl)) (by decide) (fun K hK => ?_)
             refine goes_ Try.func31 (by kernel_rfl) rfl #[.agg #[.int .i64 ((rd_T48 l0 x4_1).f0), .int .i64 ((rd_T48 l0 x4_1).f1), .int .i64 ((rd_T48 l0 x4_1).f2), .int .i64 ((rd_T48 l0 x4_1).f3), .int .i64 ((rd_T48 l0 x4_1).f4), .string ((rd_T48 l0 x4_1).f5), .int .i64 ((rd_T48 l0 x4_1).f6)]] (by rfl) rfl rfl (by (try simp only [List.map_toArray, List.map_cons, List.map_nil]); first | done | rfl | (simp only [List.length_drop, List.length_take]; rfl)) ?_
             with_reducible refine (signalbenchref14_Plain.calls ((rd_T48 l0 x4_1).f0) ((rd_T48 l0 x4_1).f1) ((rd_T48 l0 x4_1).f2) ((rd_T48 l0 x4_1).f3) ((rd_T48 l0 x4_1).f4) ((rd_T48 l0 x4_1).f5) ((rd_T48 l0 x4_1).f6) false _ A14.out).mono ?_
             rintro e w41 ⟨rfl, hb⟩
             refine ⟨_, rfl, ?_⟩
             have n0_ := Aside0.mk (Kd.R_below (rq HO_3.out) hb)
             have n1_ := Aside0.mk (below_step (bs HB.out) hb)
             clear HO_3
             clear HB
             have HO_3 := n0_
             have HB := n1_
             clear n0_ n1_
             (try clear hb)
             (try clear hb2)
             (try clear hk)
             (try clear hi)
             refine hK.out _ _ ⟨((HB.out.cell (World.block_lt_of_cell? w _ hw305_0)).trans hw305_0), ((HB.out.cell (World.block_lt_of_cell? w _ hw305_1)).trans hw305_1), ((HB.out.cell (World.block_lt_of_cell? w _ hw305_2)).trans hw305_2), ((HB.out.cell (World.block_lt_of_cell? w _ hw305_3)).trans hw305_3), ((HB.out.cell (World.block_lt_of_cell? w _ hw305_4)).trans hw305_4), ((HB.out.cell (World.block_lt_of_cell? w _ hw305_5)).trans hw305_5), ((HB.out.cell (World.block_lt_of_cell? w _ hw305_6)).trans hw305_6), ((HB.out.cell (World.block_lt_of_cell? w _ hw307_0)).trans hw307_0), ((HB.out.cell (World.block_lt_of_cell? w _ hw307_1)).trans hw307_1), ((HB.out.cell (World.block_lt_of_cell? w _ hw307_2)).trans hw307_2), ((HB.out.cell (World.block_lt_of_cell? w _ hw307_3)).trans hw307_3), ((HB.out.cell (World.block_lt_of_cell? w _ hw307_4)).trans hw307_4), ((HB.out.cell (World.block_lt_of_cell? w _ hw307_5)).trans hw307_5), ((HB.out.cell (World.block_lt_of_cell? w _ hw307_6)).trans hw307_6)⟩ (fun hHeld => ?_)
             clear hK K
             refine norm_ (a' := ?_) ?_ ?_
             rotate_left
             ·
              show Act.put _ (some 29) _ = _
              simp only [Act.put, List.setIfInBounds_toArray, List.set_cons_zero, List.set_cons_succ, i64_w, i32_w]
              rfl
             refine pu 16 30 (bsq 17 28) ?_
             refine pu 17 31 (bsq 18 27) ?_
             refine un 18 32 (bsq 19 26) ?_
             refine un 19 33 (bsq 20 25) ?_
             refine un 20 34 (bsq 21 24) ?_
             refine un 21 35 (bsq 22 23) ?_
             refine un 22 36 (bsq 23 22) ?_
             refine un 23 37 (bsq 24 21) ?_
             refine un 24 38 (bsq 25 20) ?_
             refine un 25 39 (bsq 26 19) ?_
             refine un 26 40 (bsq 27 18) ?_
             refine un 27 41 (bsq 28 17) ?_
             refine un 28 42 (bsq 29 16) ?_
             refine un 29 43 (bsq 30 15) ?_
             refine pu 30 44 (bsq 31 14) ?_
             refine pu 31 45 (bsq 32 13) ?_
             refine un 32 46 (bsq 33 12) ?_
             refine un 33 47 (bsq 34 11) ?_
             refine un 34 48 (bsq 35 10) ?_
             refine un 35 49 (bsq 36 9) ?_
             refine un 36 50 (bsq 37 8) ?_
             refine un 37 51 (bsq 38 7) ?_
             refine un 38 52 (bsq 39 6) ?_
             refine un 39 53 (bsq 40 5) ?_
             refine un 40 54 (bsq 41 4) ?_
             refine un 41 55 (bsq 42 3) ?_
             refine un 42 56 (bsq 43 2) ?_
             refine un 43 57 (bsq 44 1) ?_
             refine pu 44 58 (bsq 45 0) ?_
             refine done_ (done_of HT_.out (by kernel_rfl)) ?_
             have p323 : 0 ≤ (x4_1 : Int) := of_decide_eq_true (by first | (with_reducible assumption) | assumption)
             have q323 : x4_1 < (l0.length : Int) := of_decide_eq_true (by first | (with_reducible assumption) | assumption)
             obtain ⟨ad323, e323, hx323_0, hx323_1, hx323_2, hx323_3, hx323_4, hx323_5, hx323_6⟩ := at_T48 HR0.out x4_1 p323 q323
             obtain rfl : ad305 = ad323 := (by injection e323)
             replace hx323_0 := pw_cell_below HB.out hx323_0
             replace hx323_1 := pw_cell_below HB.out hx323_1
             replace hx323_2 := pw_cell_below HB.out hx323_2
             replace hx323_3 := pw_cell_below HB.out hx323_3
             replace hx323_4 := pw_cell_below HB.out hx323_4
             replace hx323_5 := pw_cell_below HB.out hx323_5
             replace hx323_6 := pw_cell_below HB.out hx323_6
             replace p323 := eq_true p323
             replace q323 := eq_true q323
             try go_wp2_with (first | ((with_reducible refine gate_builtin (b := .append) (xs := #[.tmp 70, .tmp 75]) rfl ?_); at_builtin; refine Kd.R_append k48 (w0 := w) w.heap.size rfl (.tmp 70) (.tmp 75) 26 48 (.agg #[(.int .i64 0), (.int .i64 0), (.int .i64 0), (.int .i64 0), (.int .i64 0), (.string ⟨#[]⟩), (.int .i64 0)]) 64 rfl Try.underlying26 info48 rfl (by decide) (by omega) u3 x3_1 (⟨(rd_T48 l0 x4_1).f0, (rd_T48 l0 x4_1).f1, (rd_T48 l0 x4_1).f2, (rd_T48 l0 x4_1).f3, (rd_T48 l0 x4_1).f4, (rd_T48 l0 x4_1).f5, (rd_T48 l0 x4_1).f6⟩ : S48) [.int .i64 ((rd_T48 l0 x4_1).f0), .int .i64 ((rd_T48 l0 x4_1).f1), .int .i64 ((rd_T48 l0 x4_1).f2), .int .i64 ((rd_T48 l0 x4_1).f3), .int .i64 ((rd_T48 l0 x4_1).f4), .string ((rd_T48 l0 x4_1).f5), .int .i64 ((rd_T48 l0 x4_1).f6)] (fun _ => True) (fun _ => False) rfl rfl ?aP (fun _ hk => hk.elim) ?aF ?aO ?aB ?aS ?aL ?_; (case aP => exact k48_mkM _ _ _ (⟨(rd_T48 l0 x4_1).f0, (rd_T48 l0 x4_1).f1, (rd_T48 l0 x4_1).f2, (rd_T48 l0 x4_1).f3, (rd_T48 l0 x4_1).f4, (rd_T48 l0 x4_1).f5, (rd_T48 l0 x4_1).f6⟩ : S48)); (case aB => exact (bs HB.out)); (case aF => exact (fun _ _ => trivial)); (case aO => exact (rq HO_3.out)); (case aS => exact (below_size (bs HB.out))); (case aL => have := LMc38.out; omega); intro v325 w42 ho hb hg hat; rw [← Ny324.out] at ho; have n0_ := Aside0.mk (hb); have n1_ := Aside0.mk (ho); clear HB; clear HO_3; have HB := n0_; have HO326 := n1_; clear n0_ n1_; clear ho hb hg hat))
             go_roundg k1
             case measure => have := HK1.out; omega
             case rel => exact ⟨(y324), (wrap64 (x4_1 + 1)), (by first | rfl | (simp; done) | (simp [*]; done)), H', ⟨by have := HK1.out; omega⟩, ⟨by (with_reducible repeat (first | apply Kd.R_alloc | apply Kd.R_drewN | apply Kd.R_drew)); exact HO326.out⟩, ⟨bs HB.out⟩⟩
            ·
             rw [if_neg c38] at H
             exact absurd H (by simp)
          ·
           rw [if_neg c13] at H
           exact absurd H (by simp)
         ·
          replace c12 := Bool.eq_false_iff.mpr c12
          subst c12
          have H1 : (if 0 ≤ x4_1 then (if x3_1.length < 2199023255552 then (signalbenchref14_Merge.l0 k1 l0 (x3_1 ++ [(⟨(rd_T48 l0 x4_1).f0, (rd_T48 l0 x4_1).f1, (rd_T48 l0 x4_1).f2, (rd_T48 l0 x4_1).f3, (rd_T48 l0 x4_1).f4, (rd_T48 l0 x4_1).f5, (rd_T48 l0 x4_1).f6⟩ : S48)]) (wrap64 (x4_1 + 1))) else (none)) else (none)) = some r := by rw [if_neg (show ¬ (false = true) by decide)] at H; exact H
          clear H
          have H := H1
          clear H1
          by_cases c43 : 0 ≤ x4_1
          ·
           rw [if_pos c43] at H
           have c43b0 : decide (0 ≤ x4_1) = true := decide_eq_true c43
           clear c43
           by_cases c44 : x3_1.length < 2199023255552
           ·
            rw [if_pos c44] at H
            have LMc44 := Aside0.mk c44
            clear c44
            obtain ⟨y328, hy328⟩ : ∃ y_ : List (S48), y_ = (x3_1 ++ [(⟨(rd_T48 l0 x4_1).f0, (rd_T48 l0 x4_1).f1, (rd_T48 l0 x4_1).f2, (rd_T48 l0 x4_1).f3, (rd_T48 l0 x4_1).f4, (rd_T48 l0 x4_1).f5, (rd_T48 l0 x4_1).f6⟩ : S48)]) := ⟨_, rfl⟩
            replace H : (signalbenchref14_Merge.l0 k1 l0 y328 (wrap64 (x4_1 + 1))) = some r := by first | (rw [hy328]; with_reducible exact H) | (have H2_ := (Option.bind_some _ _).symm.trans H; rw [hy328]; with_reducible exact H2_) | (have H2_ := (Option.bind_some _ _).symm.trans H; with_reducible exact H2_) | with_reducible exact H | (rw [hy328]; exact H) | exact H
            have Ny328 := Aside0.mk hy328
            clear hy328
            have H' := Aside0.mk H
            clear H
            try go_wp2
            have n0_ := Aside0.mk (Kd.R_drew HO_3.out)
            have n1_ := Aside0.mk (below_drew1 HB.out)
            clear HO_3
            clear HB
            have HO_3 := n0_
            have HB := n1_
            clear n0_ n1_
            have p305 : 0 ≤ ((ji8) : Int) := of_decide_eq_true (by first | (with_reducible assumption) | assumption)
            have q305 : (ji8) < (l0.length : Int) := of_decide_eq_true (by first | (with_reducible assumption) | assumption)
            obtain ⟨ad305, e305, hx305_0, hx305_1, hx305_2, hx305_3, hx305_4, hx305_5, hx305_6⟩ := at_T48 HR0.out (ji8) p305 q305
            have hw305_6 := hx305_6
            have hw305_5 := hx305_5
            have hw305_4 := hx305_4
            have hw305_3 := hx305_3
            have hw305_2 := hx305_2
            have hw305_1 := hx305_1
            have hw305_0 := hx305_0
            cases e305
            replace hx305_0 := pw_cell_below HB.out hx305_0
            replace hx305_1 := pw_cell_below HB.out hx305_1
            replace hx305_2 := pw_cell_below HB.out hx305_2
            replace hx305_3 := pw_cell_below HB.out hx305_3
            replace hx305_4 := pw_cell_below HB.out hx305_4
            replace hx305_5 := pw_cell_below HB.out hx305_5
            replace hx305_6 := pw_cell_below HB.out hx305_6
            replace p305 := eq_true p305
            replace q305 := eq_true q305
            refine start_ (n := 45) (S := fun w' => w'.cell? (ad305.add (((ji8)).toNat * 7)) = some (.int .i64 ((rd_T48 l0 (ji8)).f0)) ∧ w'.cell? ⟨(ad305.add (((ji8)).toNat * 7)).block, (ad305.add (((ji8)).toNat * 7)).off + 1, none⟩ = some (.int .i64 ((rd_T48 l0 (ji8)).f1)) ∧ w'.cell? ⟨(ad305.add (((ji8)).toNat * 7)).block, (ad305.add (((ji8)).toNat * 7)).off + 2, none⟩ = some (.int .i64 ((rd_T48 l0 (ji8)).f2)) ∧ w'.cell? ⟨(ad305.add (((ji8)).toNat * 7)).block, (ad305.add (((ji8)).toNat * 7)).off + 3, none⟩ = some (.int .i64 ((rd_T48 l0 (ji8)).f3)) ∧ w'.cell? ⟨(ad305.add (((ji8)).toNat * 7)).block, (ad305.add (((ji8)).toNat * 7)).off + 4, none⟩ = some (.int .i64 ((rd_T48 l0 (ji8)).f4)) ∧ w'.cell? ⟨(ad305.add (((ji8)).toNat * 7)).block, (ad305.add (((ji8)).toNat * 7)).off + 5, none⟩ = some (.string ((rd_T48 l0 (ji8)).f5)) ∧ w'.cell? ⟨(ad305.add (((ji8)).toNat * 7)).block, (ad305.add (((ji8)).toNat * 7)).off + 6, none⟩ = some (.int .i64 ((rd_T48 l0 (ji8)).f6))) (ds := []) (bsq 0 45) (by kernel_rfl) rfl rfl ⟨((HB.out.cell (World.block_lt_of_cell? w _ hw305_0)).trans hw305_0), ((HB.out.cell (World.block_lt_of_cell? w _ hw305_1)).trans hw305_1), ((HB.out.cell (World.block_lt_of_cell? w _ hw305_2)).trans hw305_2), ((HB.out.cell (World.block_lt_of_cell? w _ hw305_3)).trans hw305_3), ((HB.out.cell (World.block_lt_of_cell? w _ hw305_4)).trans hw305_4), ((HB.out.cell (World.block_lt_of_cell? w _ hw305_5)).trans hw305_5), ((HB.out.cell (World.block_lt_of_cell? w _ hw305_6)).trans hw305_6)⟩ (fun hHeld => ?_); refine with_tabW signalbenchref14_Merge.tab5 signalbenchref14_Merge.bits5 (fun HT_ HW_ => ?_)
            generalize wr.drew = w45 at HO_3 HB hx305_0 hx305_1 hx305_2 hx305_3 hx305_4 hx305_5 hx305_6 hHeld ⊢
            refine pu 0 14 (bsq 1 44) ?_
            refine pu 1 15 (bsq 2 43) ?_
            refine pu 2 16 (bsq 3 42) ?_
            refine pu 3 17 (bsq 4 41) ?_
            refine pu 4 18 (bsq 5 40) ?_
            refine pu 5 19 (bsq 6 39) ?_
            refine pu 6 20 (bsq 7 38) ?_
            refine tk 7 21 (bsq 8 37) hHeld ?_ (he := by rintro w' ⟨s0, s1, s2, s3, s4, s5, s6⟩; go_simp; with_reducible rfl)
            refine one_ (i := 8) (N := some 22) (bsq 9 36) rfl rfl (one_of HT_.out (by kernel_rfl)) (by decide) (fun K hK => ?_)
            refine goes_ Try.func31 (by kernel_rfl) rfl #[.agg #[.int .i64 ((rd_T48 l0 (ji8)).f0), .int .i64 ((rd_T48 l0 (ji8)).f1), .int .i64 ((rd_T48 l0 (ji8)).f2), .int .i64 ((rd_T48 l0 (ji8)).f3), .int .i64 ((rd_T48 l0 (ji8)).f4), .string ((rd_T48 l0 (ji8)).f5), .int .i64 ((rd_T48 l0 (ji8)).f6)]] (by rfl) rfl rfl (by (try simp only [List.map_toArray, List.map_cons, List.map_nil]); first | done | (simp only [hji8]; rfl) | rfl | (simp only [List.length_drop, List.length_take]; rfl)) ?_
            with_reducible refine (signalbenchref14_Plain.calls ((rd_T48 l0 (ji8)).f0) ((rd_T48 l0 (ji8)).f1) ((rd_T48 l0 (ji8)).f2) ((rd_T48 l0 (ji8)).f3) ((rd_T48 l0 (ji8)).f4) ((rd_T48 l0 (ji8)).f5) ((rd_T48 l0 (ji8)).f6) false _ A11.out).mono ?_
            rintro e w46 ⟨rfl, hb⟩
            refine ⟨_, rfl, ?_⟩
            have n0_ := Aside0.mk (Kd.R_below (rq HO_3.out) hb)
            have n1_ := Aside0.mk (below_step (bs HB.out) hb)
            clear HO_3
            clear HB
            have HO_3 := n0_
            have HB := n1_
            clear n0_ n1_
            (try clear hb)
            (try clear hb2)
            (try clear hk)
            (try clear hi)
            refine hK.out _ _ ⟨((HB.out.cell (World.block_lt_of_cell? w _ hw305_0)).trans hw305_0), ((HB.out.cell (World.block_lt_of_cell? w _ hw305_1)).trans hw305_1), ((HB.out.cell (World.block_lt_of_cell? w _ hw305_2)).trans hw305_2), ((HB.out.cell (World.block_lt_of_cell? w _ hw305_3)).trans hw305_3), ((HB.out.cell (World.block_lt_of_cell? w _ hw305_4)).trans hw305_4), ((HB.out.cell (World.block_lt_of_cell? w _ hw305_5)).trans hw305_5), ((HB.out.cell (World.block_lt_of_cell? w _ hw305_6)).trans hw305_6)⟩ (fun hHeld => ?_)
            clear hK K
            refine norm_ (a' := ?_) ?_ ?_
            rotate_left
            ·
             show Act.put _ (some 22) _ = _
             simp only [Act.put, List.setIfInBounds_toArray, List.set_cons_zero, List.set_cons_succ, i64_w, i32_w]
             rfl
            refine pu 9 23 (bsq 10 35) ?_
            refine pu 10 24 (bsq 11 34) ?_
            refine un 11 25 (bsq 12 33) ?_
            refine un 12 26 (bsq 13 32) ?_
            refine un 13 27 (bsq 14 31) ?_
            refine un 14 28 (bsq 15 30) ?_
            refine un 15 29 (bsq 16 29) ?_
            refine pu 16 30 (bsq 17 28) ?_
            refine pu 17 31 (bsq 18 27) ?_
            refine un 18 32 (bsq 19 26) ?_
            refine un 19 33 (bsq 20 25) ?_
            refine un 20 34 (bsq 21 24) ?_
            refine un 21 35 (bsq 22 23) ?_
            refine un 22 36 (bsq 23 22) ?_
            refine un 23 37 (bsq 24 21) ?_
            refine un 24 38 (bsq 25 20) ?_
            refine un 25 39 (bsq 26 19) ?_
            refine un 26 40 (bsq 27 18) ?_
            refine un 27 41 (bsq 28 17) ?_
            refine un 28 42 (bsq 29 16) ?_
            refine un 29 43 (bsq 30 15) ?_
            refine pu 30 44 (bsq 31 14) ?_
            refine pu 31 45 (bsq 32 13) ?_
            refine un 32 46 (bsq 33 12) ?_
            refine un 33 47 (bsq 34 11) ?_
            refine un 34 48 (bsq 35 10) ?_
            refine un 35 49 (bsq 36 9) ?_
            refine un 36 50 (bsq 37 8) ?_
            refine un 37 51 (bsq 38 7) ?_
            refine un 38 52 (bsq 39 6) ?_
            refine un 39 53 (bsq 40 5) ?_
            refine un 40 54 (bsq 41 4) ?_
            refine un 41 55 (bsq 42 3) ?_
            refine un 42 56 (bsq 43 2) ?_
            refine un 43 57 (bsq 44 1) ?_
            refine pu 44 58 (bsq 45 0) ?_
            refine done_ (done_of HT_.out (by kernel_rfl)) ?_
            have p327 : 0 ≤ (x4_1 : Int) := of_decide_eq_true (by first | (with_reducible assumption) | assumption)
            have q327 : x4_1 < (l0.length : Int) := of_decide_eq_true (by first | (with_reducible assumption) | assumption)
            obtain ⟨ad327, e327, hx327_0, hx327_1, hx327_2, hx327_3, hx327_4, hx327_5, hx327_6⟩ := at_T48 HR0.out x4_1 p327 q327
            obtain rfl : ad305 = ad327 := (by injection e327)
            replace hx327_0 := pw_cell_below HB.out hx327_0
            replace hx327_1 := pw_cell_below HB.out hx327_1
            replace hx327_2 := pw_cell_below HB.out hx327_2
            replace hx327_3 := pw_cell_below HB.out hx327_3
            replace hx327_4 := pw_cell_below HB.out hx327_4
            replace hx327_5 := pw_cell_below HB.out hx327_5
            replace hx327_6 := pw_cell_below HB.out hx327_6
            replace p327 := eq_true p327
            replace q327 := eq_true q327
            try go_wp2_with (first | ((with_reducible refine gate_builtin (b := .append) (xs := #[.tmp 70, .tmp 75]) rfl ?_); at_builtin; refine Kd.R_append k48 (w0 := w) w.heap.size rfl (.tmp 70) (.tmp 75) 26 48 (.agg #[(.int .i64 0), (.int .i64 0), (.int .i64 0), (.int .i64 0), (.int .i64 0), (.string ⟨#[]⟩), (.int .i64 0)]) 64 rfl Try.underlying26 info48 rfl (by decide) (by omega) u3 x3_1 (⟨(rd_T48 l0 x4_1).f0, (rd_T48 l0 x4_1).f1, (rd_T48 l0 x4_1).f2, (rd_T48 l0 x4_1).f3, (rd_T48 l0 x4_1).f4, (rd_T48 l0 x4_1).f5, (rd_T48 l0 x4_1).f6⟩ : S48) [.int .i64 ((rd_T48 l0 x4_1).f0), .int .i64 ((rd_T48 l0 x4_1).f1), .int .i64 ((rd_T48 l0 x4_1).f2), .int .i64 ((rd_T48 l0 x4_1).f3), .int .i64 ((rd_T48 l0 x4_1).f4), .string ((rd_T48 l0 x4_1).f5), .int .i64 ((rd_T48 l0 x4_1).f6)] (fun _ => True) (fun _ => False) rfl rfl ?aP (fun _ hk => hk.elim) ?aF ?aO ?aB ?aS ?aL ?_; (case aP => exact k48_mkM _ _ _ (⟨(rd_T48 l0 x4_1).f0, (rd_T48 l0 x4_1).f1, (rd_T48 l0 x4_1).f2, (rd_T48 l0 x4_1).f3, (rd_T48 l0 x4_1).f4, (rd_T48 l0 x4_1).f5, (rd_T48 l0 x4_1).f6⟩ : S48)); (case aB => exact (bs HB.out)); (case aF => exact (fun _ _ => trivial)); (case aO => exact (rq HO_3.out)); (case aS => exact (below_size (bs HB.out))); (case aL => have := LMc44.out; omega); intro v329 w47 ho hb hg hat; rw [← Ny328.out] at ho; have n0_ := Aside0.mk (hb); have n1_ := Aside0.mk (ho); clear HB; clear HO_3; have HB := n0_; have HO330 := n1_; clear n0_ n1_; clear ho hb hg hat))
            go_roundg k1
            case measure => have := HK1.out; omega
            case rel => exact ⟨(y328), (wrap64 (x4_1 + 1)), (by first | rfl | (simp; done) | (simp [*]; done)), H', ⟨by have := HK1.out; omega⟩, ⟨by (with_reducible repeat (first | apply Kd.R_alloc | apply Kd.R_drewN | apply Kd.R_drew)); exact HO330.out⟩, ⟨bs HB.out⟩⟩
           ·
            rw [if_neg c44] at H
            exact absurd H (by simp)
          ·
           rw [if_neg c43] at H
           exact absurd H (by simp)
        ·
         rw [if_neg c10] at H
         exact absurd H (by simp)
       ·
        rw [if_neg c9] at H
        exact absurd H (by simp)
      ·
       rw [if_neg c7] at H
       have c7b0 : decide (0 < x4_1) = false := decide_eq_false c7
       clear c7
       by_cases c48 : 0 ≤ x4_1
       ·
        rw [if_pos c48] at H
        have c48b0 : decide (0 ≤ x4_1) = true := decide_eq_true c48
        clear c48
        by_cases c49 : x3_1.length < 2199023255552
        ·
         rw [if_pos c49] at H
         have LMc49 := Aside0.mk c49
         clear c49
         obtain ⟨y332, hy332⟩ : ∃ y_ : List (S48), y_ = (x3_1 ++ [(⟨(rd_T48 l0 x4_1).f0, (rd_T48 l0 x4_1).f1, (rd_T48 l0 x4_1).f2, (rd_T48 l0 x4_1).f3, (rd_T48 l0 x4_1).f4, (rd_T48 l0 x4_1).f5, (rd_T48 l0 x4_1).f6⟩ : S48)]) := ⟨_, rfl⟩
         replace H : (signalbenchref14_Merge.l0 k1 l0 y332 (wrap64 (x4_1 + 1))) = some r := by first | (rw [hy332]; with_reducible exact H) | (have H2_ := (Option.bind_some _ _).symm.trans H; rw [hy332]; with_reducible exact H2_) | (have H2_ := (Option.bind_some _ _).symm.trans H; with_reducible exact H2_) | with_reducible exact H | (rw [hy332]; exact H) | exact H
         have Ny332 := Aside0.mk hy332
         clear hy332
         have H' := Aside0.mk H
         clear H
         try go_wp2
         have n0_ := Aside0.mk (Kd.R_drew HO_3.out)
         have n1_ := Aside0.mk (below_drew1 HB.out)
         clear HO_3
         clear HB
         have HO_3 := n0_
         have HB := n1_
         clear n0_ n1_
         refine start_ (n := 45) (S := fun w' => True) (ds := []) (bsq 0 45) (by kernel_rfl) rfl rfl trivial (fun hHeld => ?_); refine with_tabW signalbenchref14_Merge.tab5 signalbenchref14_Merge.bits5 (fun HT_ HW_ => ?_)
         generalize wr.drew = w50 at HO_3 HB hHeld ⊢
         refine pu 0 14 (bsq 1 44) ?_
         refine pu 1 15 (bsq 2 43) ?_
         refine pu 2 16 (bsq 3 42) ?_
         refine un 3 17 (bsq 4 41) ?_
         refine un 4 18 (bsq 5 40) ?_
         refine un 5 19 (bsq 6 39) ?_
         refine un 6 20 (bsq 7 38) ?_
         refine un 7 21 (bsq 8 37) ?_
         refine un 8 22 (bsq 9 36) ?_
         refine pu 9 23 (bsq 10 35) ?_
         refine pu 10 24 (bsq 11 34) ?_
         refine un 11 25 (bsq 12 33) ?_
         refine un 12 26 (bsq 13 32) ?_
         refine un 13 27 (bsq 14 31) ?_
         refine un 14 28 (bsq 15 30) ?_
         refine un 15 29 (bsq 16 29) ?_
         refine pu 16 30 (bsq 17 28) ?_
         refine pu 17 31 (bsq 18 27) ?_
         refine un 18 32 (bsq 19 26) ?_
         refine un 19 33 (bsq 20 25) ?_
         refine un 20 34 (bsq 21 24) ?_
         refine un 21 35 (bsq 22 23) ?_
         refine un 22 36 (bsq 23 22) ?_
         refine un 23 37 (bsq 24 21) ?_
         refine un 24 38 (bsq 25 20) ?_
         refine un 25 39 (bsq 26 19) ?_
         refine un 26 40 (bsq 27 18) ?_
         refine un 27 41 (bsq 28 17) ?_
         refine un 28 42 (bsq 29 16) ?_
         refine un 29 43 (bsq 30 15) ?_
         refine pu 30 44 (bsq 31 14) ?_
         refine pu 31 45 (bsq 32 13) ?_
         refine un 32 46 (bsq 33 12) ?_
         refine un 33 47 (bsq 34 11) ?_
         refine un 34 48 (bsq 35 10) ?_
         refine un 35 49 (bsq 36 9) ?_
         refine un 36 50 (bsq 37 8) ?_
         refine un 37 51 (bsq 38 7) ?_
         refine un 38 52 (bsq 39 6) ?_
         refine un 39 53 (bsq 40 5) ?_
         refine un 40 54 (bsq 41 4) ?_
         refine un 41 55 (bsq 42 3) ?_
         refine un 42 56 (bsq 43 2) ?_
         refine un 43 57 (bsq 44 1) ?_
         refine pu 44 58 (bsq 45 0) ?_
         refine done_ (done_of HT_.out (by kernel_rfl)) ?_
         have p331 : 0 ≤ (x4_1 : Int) := of_decide_eq_true (by first | (with_reducible assumption) | assumption)
         have q331 : x4_1 < (l0.length : Int) := of_decide_eq_true (by first | (with_reducible assumption) | assumption)
         obtain ⟨ad331, e331, hx331_0, hx331_1, hx331_2, hx331_3, hx331_4, hx331_5, hx331_6⟩ := at_T48 HR0.out x4_1 p331 q331
         cases e331
         replace hx331_0 := pw_cell_below HB.out hx331_0
         replace hx331_1 := pw_cell_below HB.out hx331_1
         replace hx331_2 := pw_cell_below HB.out hx331_2
         replace hx331_3 := pw_cell_below HB.out hx331_3
         replace hx331_4 := pw_cell_below HB.out hx331_4
         replace hx331_5 := pw_cell_below HB.out hx331_5
         replace hx331_6 := pw_cell_below HB.out hx331_6
         replace p331 := eq_true p331
         replace q331 := eq_true q331
         try go_wp2_with (first | ((with_reducible refine gate_builtin (b := .append) (xs := #[.tmp 70, .tmp 75]) rfl ?_); at_builtin; refine Kd.R_append k48 (w0 := w) w.heap.size rfl (.tmp 70) (.tmp 75) 26 48 (.agg #[(.int .i64 0), (.int .i64 0), (.int .i64 0), (.int .i64 0), (.int .i64 0), (.string ⟨#[]⟩), (.int .i64 0)]) 64 rfl Try.underlying26 info48 rfl (by decide) (by omega) u3 x3_1 (⟨(rd_T48 l0 x4_1).f0, (rd_T48 l0 x4_1).f1, (rd_T48 l0 x4_1).f2, (rd_T48 l0 x4_1).f3, (rd_T48 l0 x4_1).f4, (rd_T48 l0 x4_1).f5, (rd_T48 l0 x4_1).f6⟩ : S48) [.int .i64 ((rd_T48 l0 x4_1).f0), .int .i64 ((rd_T48 l0 x4_1).f1), .int .i64 ((rd_T48 l0 x4_1).f2), .int .i64 ((rd_T48 l0 x4_1).f3), .int .i64 ((rd_T48 l0 x4_1).f4), .string ((rd_T48 l0 x4_1).f5), .int .i64 ((rd_T48 l0 x4_1).f6)] (fun _ => True) (fun _ => False) rfl rfl ?aP (fun _ hk => hk.elim) ?aF ?aO ?aB ?aS ?aL ?_; (case aP => exact k48_mkM _ _ _ (⟨(rd_T48 l0 x4_1).f0, (rd_T48 l0 x4_1).f1, (rd_T48 l0 x4_1).f2, (rd_T48 l0 x4_1).f3, (rd_T48 l0 x4_1).f4, (rd_T48 l0 x4_1).f5, (rd_T48 l0 x4_1).f6⟩ : S48)); (case aB => exact (bs HB.out)); (case aF => exact (fun _ _ => trivial)); (case aO => exact (rq HO_3.out)); (case aS => exact (below_size (bs HB.out))); (case aL => have := LMc49.out; omega); intro v333 w51 ho hb hg hat; rw [← Ny332.out] at ho; have n0_ := Aside0.mk (hb); have n1_ := Aside0.mk (ho); clear HB; clear HO_3; have HB := n0_; have HO334 := n1_; clear n0_ n1_; clear ho hb hg hat))
         go_roundg k1
         case measure => have := HK1.out; omega
         case rel => exact ⟨(y332), (wrap64 (x4_1 + 1)), (by first | rfl | (simp; done) | (simp [*]; done)), H', ⟨by have := HK1.out; omega⟩, ⟨by (with_reducible repeat (first | apply Kd.R_alloc | apply Kd.R_drewN | apply Kd.R_drew)); exact HO334.out⟩, ⟨bs HB.out⟩⟩
        ·
         rw [if_neg c49] at H
         exact absurd H (by simp)
       ·
        rw [if_neg c48] at H
        exact absurd H (by simp)
     ·
      rw [if_neg c6] at H
      have c6b0 : decide (x4_1 < (l0.length : Int)) = false := decide_eq_false c6
      clear c6
      obtain rfl := Option.some.inj H
      go_wp2
      go_ret
      exact ⟨_, by first | rfl | (simp [errW_none, errW_some] <;> rfl) | (simp [*, errW_none, errW_some] <;> rfl), by (with_reducible repeat (first | apply Kd.R_alloc | apply Kd.R_drewN | apply Kd.R_drew)); exact HO_3.out, bs HB.out⟩
  ·
   rw [if_neg c3] at H
   exact absurd H (by simp)
 ·
  rw [if_neg c2] at H
  exact absurd H (by simp)

end Go.Proofs.Ytioedeglgljblaa.H
