-- Printed by wip/hprint.py (this project's own driver of the kit's print) out of the translation; Lean checks it.
import Derived.Test.YtgdjiphljadlcaaK0
import Derived.Test.YtgdjiphljadlcaaK22
import Derived.Test.YtgdjiphljadlcaaK28
namespace Go.Proofs.Ytgdjiphljadlcaa.K
open Go.RowKit Go.Proofs.YtgdjiphljadlcaaW.PrintWords Go.Proofs.YtgdjiphljadlcaaW.PrintLast Go.Proofs.YtgdjiphljadlcaaW.PrintMore
attribute [local go_sem] max2_int min2_int max_two min_two max_three min_three max_four min_four   -- for this text's walks alone
set_option linter.unusedVariables false
set_option linter.unusedSimpArgs false

/-! ### signalbenchref47_ends: function 62 -/
mutual
def signalbenchref47_ends.l0 : Nat → List (S46) → List (List Bool) → Int → List (S50) → Option ((List (List Bool)))
 | 0, _, _, _, _ => none
 | k + 1, x1, x5, x6, x395000 => if x6 < (x395000.length : Int) then (if 0 ≤ (x1.length : Int) then (if ((x1.length : Int) : Int).toNat ≤ 281474976710656 then (if 0 ≤ x6 then (if x6 < (x5.length : Int) then (signalbenchref47_ends.l1 k x1 (x5.set (x6 : Int).toNat (List.replicate ((x1.length : Int) : Int).toNat false)) x6 0 x395000) else (none)) else (none)) else (none)) else (none)) else (some x5)
def signalbenchref47_ends.l1 : Nat → List (S46) → List (List Bool) → Int → Int → List (S50) → Option ((List (List Bool)))
 | 0, _, _, _, _, _ => none
 | k + 1, x1, x5, x6, x7, x395000 => if x7 < (x1.length : Int) then (if 0 ≤ x6 then (if x6 < (x395000.length : Int) then (if 0 ≤ x7 then ((signalbenchref47_satisfies.f k ((rd_T50 x395000 x6).f0.f0) ((rd_T50 x395000 x6).f0.f1) ((rd_T50 x395000 x6).f0.f2) ((rd_T50 x395000 x6).f0.f3) ((rd_T50 x395000 x6).f0.f4) ((rd_T46 x1 x7).f0) ((rd_T46 x1 x7).f1) ((rd_T46 x1 x7).f2.f0) ((rd_T46 x1 x7).f2.f1) ((rd_T46 x1 x7).f2.f2) ((rd_T46 x1 x7).f2.f3) ((rd_T46 x1 x7).f2.f4) ((rd_T46 x1 x7).f2.f5) ((rd_T46 x1 x7).f2.f6)).bind fun t404 => (if t404 = true then (if x6 < (x5.length : Int) then (if x6 = 0 then (if x7 < ((rd_L11 x5 x6).length : Int) then (signalbenchref47_ends.l1 k x1 (x5.set (x6 : Int).toNat ((rd_L11 x5 x6).set (x7 : Int).toNat true)) x6 (wrap64 (x7 + 1)) x395000) else (none)) else (if 0 ≤ (wrap64 (x6 - 1)) then (if (wrap64 (x6 - 1)) < (x5.length : Int) then ((signalbenchref47_before.f k x395000 x1 (rd_L11 x5 (wrap64 (x6 - 1))) x6 x7).bind fun t410 => (if x7 < ((rd_L11 x5 x6).length : Int) then (signalbenchref47_ends.l1 k x1 (x5.set (x6 : Int).toNat ((rd_L11 x5 x6).set (x7 : Int).toNat (decide (t410 ≥ 0)))) x6 (wrap64 (x7 + 1)) x395000) else (none))) else (none)) else (none))) else (none)) else (signalbenchref47_ends.l1 k x1 x5 x6 (wrap64 (x7 + 1)) x395000))) else (none)) else (none)) else (none)) else (signalbenchref47_ends.l0 k x1 x5 (wrap64 (x6 + 1)) x395000)
end
def signalbenchref47_ends.f (k : Nat) (l0_0 : List (S50)) (l1 : List (S46)) : Option ((List (List Bool))) := if 0 ≤ (l0_0.length : Int) then (if ((l0_0.length : Int) : Int).toNat ≤ 11728124029610 then (signalbenchref47_ends.l0 k l1 (List.replicate ((l0_0.length : Int) : Int).toNat []) 0 l0_0) else (none)) else (none)
def signalbenchref47_ends.T9 : Bool × List (List Nat × List Nat) := (true, [([], []), ([0], [0]), ([], []), ([1, 2], [1, 2]), ([3], [3]), ([4], [4]), ([], []), ([], []), ([6, 7], [6, 7]), ([8], [8]), ([5, 9], [5, 9])])
def signalbenchref47_ends.B9 : List Nat := [0, 1, 0, 7, 15, 31, 0, 0, 192, 448, 1023]
theorem signalbenchref47_ends.tab9 : rtab .any (opsOf Try.f62 9) = signalbenchref47_ends.T9 := by kernel_rfl
theorem signalbenchref47_ends.bits9 : waitsOk signalbenchref47_ends.T9.2 signalbenchref47_ends.B9 = true := by kernel_rfl
def signalbenchref47_ends.T10 : Bool × List (List Nat × List Nat) := (true, [([], []), ([], []), ([0, 1], [0, 1]), ([2], [2]), ([], []), ([], []), ([5], [5]), ([6], [6]), ([7], [7]), ([7], [7]), ([7], [7]), ([7], [7]), ([11, 7], [7, 11]), ([10, 12, 7], [7, 10, 12]), ([13, 7], [7, 13]), ([7], [7]), ([7], [7]), ([8, 9, 14, 15, 16, 7, 7], [7, 8, 9, 14, 15, 16]), ([17, 7], [7, 17]), ([7, 18], [7, 18]), ([3, 4, 0, 1, 2, 3, 4, 5, 6, 7, 8, 9, 10, 11, 12, 13, 14, 15, 16, 17, 18, 19], [3, 4]), ([20, 19, 17, 0, 1, 2, 3, 4, 5, 6, 7, 8, 9, 10, 11, 12, 13, 14, 15, 16, 17, 18, 19], [19, 20])])
def signalbenchref47_ends.B10 : List Nat := [0, 0, 3, 7, 0, 0, 32, 96, 224, 224, 224, 224, 2272, 7392, 15584, 224, 224, 131040, 262112, 524256, 1048575, 2097151]
theorem signalbenchref47_ends.tab10 : rtab .any (opsOf Try.f62 10) = signalbenchref47_ends.T10 := by kernel_rfl
theorem signalbenchref47_ends.bits10 : waitsOk signalbenchref47_ends.T10.2 signalbenchref47_ends.B10 = true := by kernel_rfl
set_option maxHeartbeats 8000000 in
set_option maxRecDepth 100000 in
theorem signalbenchref47_ends.calls (k : Nat) (A0_0 : Option Addr) (c0_0 : Nat) (l0_0 : List (S50)) (A1 : Option Addr) (c1 : Nat) (l1 : List (S46)) (r : List (List Bool)) (w : World) (hr0_0 : Kd.C k50 w A0_0 l0_0.length l0_0) (hc0_0 : l0_0.length ≤ c0_0) (hr1 : Kd.C k46 w A1 l1.length l1) (hc1 : l1.length ≤ c1) (h : signalbenchref47_ends.f k l0_0 l1 = some r) :
  Calls Try.prog 62 #[.agg #[.slice A0_0 l0_0.length c0_0], .slice A1 l1.length c1] w fun e w' => ∃ v0_ : Value, e = .returned (v0_) ∧ Kd.S (Kd.slice 4 Kd.bool) 86 w' w.heap.size (fun _ => True) v0_ r ∧ Below w.heap.size w w' := by
 have hu31 := Try.underlying31
 have hu42 := Try.underlying42
 have hu46 := Try.underlying46
 have HR0_0 := Aside0.mk hr0_0
 have HC0_0 := Aside0.mk hc0_0
 clear hr0_0 hc0_0
 have HR1 := Aside0.mk hr1
 have HC1 := Aside0.mk hc1
 clear hr1 hc1
 have HB := Aside0.mk (Below.refl w.heap.size w)
 have H : (if 0 ≤ (l0_0.length : Int) then (if ((l0_0.length : Int) : Int).toNat ≤ 11728124029610 then (signalbenchref47_ends.l0 k l1 (List.replicate ((l0_0.length : Int) : Int).toNat []) 0 l0_0) else (none)) else (none)) = some r := h
 clear h
 by_cases c3 : 0 ≤ (l0_0.length : Int)
 ·
  rw [if_pos c3] at H
  have c3b0 := eq_true c3
  have c3b1 : decide (0 ≤ (l0_0.length : Int)) = true := decide_eq_true c3
  clear c3
  by_cases c4 : ((l0_0.length : Int) : Int).toNat ≤ 11728124029610
  ·
   rw [if_pos c4] at H
   have c4b0 := eq_true c4
   have c4b1 : decide (((l0_0.length : Int) : Int).toNat ≤ 11728124029610) = true := decide_eq_true c4
   clear c4
   obtain ⟨y395, hy395⟩ : ∃ y_ : List (List Bool), y_ = (List.replicate ((l0_0.length : Int) : Int).toNat []) := ⟨_, rfl⟩
   replace H : (signalbenchref47_ends.l0 k l1 y395 0 l0_0) = some r := by first | (rw [hy395]; with_reducible exact H) | (have H2_ := (Option.bind_some _ _).symm.trans H; rw [hy395]; with_reducible exact H2_) | (have H2_ := (Option.bind_some _ _).symm.trans H; with_reducible exact H2_) | with_reducible exact H | (rw [hy395]; exact H) | exact H
   have Ny395 := Aside0.mk hy395
   clear hy395
   have H' := Aside0.mk H
   clear H
   go_enter Try.func62, Try.ntmps62
   go_wp2_with (first | ((with_reducible refine gate_dst (N := 2) rfl ?_); refine box_event ?hg (N := 2) ?hd (cs := #[.slice A0_0 l0_0.length c0_0]) (t := 31) ?hr ?_; (case hd => rfl); (case hg => rfl); (case hr => first | (go_simp; done) | (go_simp; rfl)); intro gb394 hg w5 hbox hb; have n0_ := Aside0.mk (below_step (bs HB.out) hb); have n1_ := Aside0.mk (hbox); have n2_ := Aside0.mk ((by rw [hg]; exact (below_size (bs HB.out)) : w.heap.size ≤ gb394)); have n3_ := n2_; clear HB; have HB := n0_; have BK394 := n1_; have GW394 := n2_; have GE394 := n3_; clear n0_ n1_ n2_ n3_; clear hb hbox hg; have hcz6_0 : w5.cell? ⟨gb394, 0, none⟩ = some (.slice A0_0 l0_0.length c0_0) := (blk_cell BK394.out 0).trans rfl; have hfz6_0 := blk_frozen BK394.out 0) | ((with_reducible refine gate_dst (N := 11) rfl ?_); refine Kd.S_make (Kd.slice 4 Kd.bool) _ 86 rfl (N := 11) rfl 87 _ _ rfl (l0_0.length : Int) rfl rfl Try.underlying87 (.slice none 0 0) 24 info86 rfl (by decide) (by omega) [] (ok := fun _ => True) (okp := fun _ => True) ⟨_, rfl, Kd.R_nil _ _ _ _ _⟩ (fun _ hk => hk) trivial (of_decide_eq_true (by first | (with_reducible assumption) | assumption)) (Nat.le_trans (Nat.mul_le_mul_right _ (of_decide_eq_true (by first | (with_reducible assumption) | assumption) : (l0_0.length : Int).toNat ≤ 11728124029610)) (by omega)) (Below.refl _ _) (Nat.le_refl _) ?_; intro v396 w7 ho8 hb hg_ hnew_; clear hg_ hnew_; (first | rw [← Ny395.out] at ho8 | (simp only [Int.reduceToNat] at ho8; rw [← Ny395.out] at ho8)); have n0_ := Aside0.mk (Kd.S_lower ho8 (below_size (bs HB.out))); have n1_ := Aside0.mk (blk_below (bg BK394.out) hb); have n2_ := Aside0.mk (below_step (bs HB.out) hb); clear BK394; clear HB; have HO397 := n0_; have BK394 := n1_; have HB := n2_; clear n0_ n1_ n2_; clear hb ho8))
   go_loopg [6] k (fun kq v6 w' => ∃ (x5_1 : List (List Bool)) (x6_1 : Int), v6 = .int .i64 x6_1 ∧ Aside0 (signalbenchref47_ends.l0 kq l1 x5_1 x6_1 l0_0 = some r) ∧ Aside0 (kq ≤ k) ∧ Aside0 (Kd.S (Kd.slice 4 Kd.bool) 86 w' w.heap.size (fun _ => True) v396 x5_1) ∧ Aside0 (w'.heap[gb394]? = some (.cells #[(.slice A0_0 l0_0.length c0_0)] 31 (0, 0))) ∧ Aside0 (Below w.heap.size w w'))
   case atStart => exact ⟨(y395), (0), (by first | rfl | (simp; done) | (simp [*]; done)), H', ⟨Nat.le_refl _⟩, ⟨by (with_reducible repeat (first | apply Kd.S_alloc | apply Kd.S_drewN | apply Kd.S_drew)); exact HO397.out⟩, ⟨bg BK394.out⟩, ⟨bs HB.out⟩⟩
   case round =>
    clear H'
    try clear c1
    try clear p2
    try clear c3
    try clear c3b0
    try clear c3b1
    try clear c4
    try clear c4b0
    try clear c4b1
    try clear c6
    try clear hcz6_0
    try clear hfz6_0
    obtain ⟨x5_1, x6_1, rfl, HA, HK1, HO_5, BK394, HB⟩ := hrel
    cases gk with
    | zero => exact absurd HA.out (by simp [signalbenchref47_ends.l0])
    | succ k1 =>
     have H := HA.out
     clear HA
     simp only [signalbenchref47_ends.l0] at H
     by_cases c9 : x6_1 < (l0_0.length : Int)
     ·
      rw [if_pos c9] at H
      have c9b0 : decide (x6_1 < (l0_0.length : Int)) = true := decide_eq_true c9
      clear c9
      by_cases c10 : 0 ≤ (l1.length : Int)
      ·
       rw [if_pos c10] at H
       have c10b0 := eq_true c10
       have c10b1 : decide (0 ≤ (l1.length : Int)) = true := decide_eq_true c10
       clear c10
       by_cases c11 : ((l1.length : Int) : Int).toNat ≤ 281474976710656
       ·
        rw [if_pos c11] at H
        have c11b0 := eq_true c11
        have c11b1 : decide (((l1.length : Int) : Int).toNat ≤ 281474976710656) = true := decide_eq_true c11
        clear c11
        obtain ⟨y398, hy398⟩ : ∃ y_ : List Bool, y_ = (List.replicate ((l1.length : Int) : Int).toNat false) := ⟨_, rfl⟩
        replace H : (if 0 ≤ x6_1 then (if x6_1 < (x5_1.length : Int) then (signalbenchref47_ends.l1 k1 l1 (x5_1.set (x6_1 : Int).toNat y398) x6_1 0 l0_0) else (none)) else (none)) = some r := by first | (rw [hy398]; with_reducible exact H) | (have H2_ := (Option.bind_some _ _).symm.trans H; rw [hy398]; with_reducible exact H2_) | (have H2_ := (Option.bind_some _ _).symm.trans H; with_reducible exact H2_) | with_reducible exact H | (rw [hy398]; exact H) | exact H
        have Ny398 := Aside0.mk hy398
        clear hy398
        by_cases c12 : 0 ≤ x6_1
        ·
         rw [if_pos c12] at H
         have c12b0 : decide (0 ≤ x6_1) = true := decide_eq_true c12
         clear c12
         by_cases c13 : x6_1 < (x5_1.length : Int)
         ·
          rw [if_pos c13] at H
          have c13b0 : decide (x6_1 < (x5_1.length : Int)) = true := decide_eq_true c13
          clear c13
          obtain ⟨y401, hy401⟩ : ∃ y_ : List (List Bool), y_ = (x5_1.set (x6_1 : Int).toNat y398) := ⟨_, rfl⟩
          replace H : (signalbenchref47_ends.l1 k1 l1 y401 x6_1 0 l0_0) = some r := by first | (rw [hy401]; with_reducible exact H) | (have H2_ := (Option.bind_some _ _).symm.trans H; rw [hy401]; with_reducible exact H2_) | (have H2_ := (Option.bind_some _ _).symm.trans H; with_reducible exact H2_) | with_reducible exact H | (rw [hy401]; exact H) | exact H
          have Ny401 := Aside0.mk hy401
          clear hy401
          have H' := Aside0.mk H
          clear H
          have hcz15_0 : wr.cell? ⟨gb394, 0, none⟩ = some (.slice A0_0 l0_0.length c0_0) := (blk_cell BK394.out 0).trans rfl
          have hfz15_0 := blk_frozen BK394.out 0
          go_wp2_with (first | ((with_reducible refine gate_dst (N := 23) rfl ?_); refine Kd.R_make Kd.bool _ 4 rfl (N := 23) rfl 86 _ _ rfl (l1.length : Int) rfl rfl Try.underlying86 (.bool false) 1 info4 rfl (by decide) (by omega) false (ok := fun _ => True) (okp := fun _ => True) rfl (fun _ hk => hk) trivial (of_decide_eq_true (by first | (with_reducible assumption) | assumption)) (Nat.le_trans (Nat.mul_le_mul_right _ (of_decide_eq_true (by first | (with_reducible assumption) | assumption) : (l1.length : Int).toNat ≤ 281474976710656)) (by omega)) (Below.refl _ _) (Nat.le_refl _) ?_; intro v399 w16 ho17 hb hg_ hnew_; clear hg_ hnew_; (first | rw [← Ny398.out] at ho17 | (simp only [Int.reduceToNat] at ho17; rw [← Ny398.out] at ho17)); have n0_ := Aside0.mk (Kd.S_elder' (by (with_reducible repeat (first | apply Kd.S_alloc | apply Kd.S_drewN | apply Kd.S_drew)); exact HO_5.out) (Kd.R_base ho17) hb); have n1_ := Aside0.mk (Kd.R_lower ho17 (below_size (bs HB.out))); have n2_ := Aside0.mk (blk_below (bg BK394.out) hb); have n3_ := Aside0.mk (below_step (bs HB.out) hb); clear HO_5; clear BK394; clear HB; have HO_5 := n0_; have HO400 := n1_; have BK394 := n2_; have HB := n3_; clear n0_ n1_ n2_ n3_; clear hb ho17; have p14 : 0 ≤ (x6_1 : Int) := of_decide_eq_true (by first | (with_reducible assumption) | assumption); have q14 : (x6_1 : Int) < ((x5_1.length : Int) : Int) := of_decide_eq_true (by first | (with_reducible assumption) | assumption); obtain ⟨go14, co14, eo14, gb14, gl14, cl14, HG14⟩ := Kd.S_form HO_5.out (by omega); (first | cases eo14 | (injection eo14 with ea_ en_ ec_; (first | subst ea_ | (injection ea_ with ea_; subst ea_)); subst ec_; clear en_)); have GB14 := Aside0.mk gb14; have GG14 := Aside0.mk HG14; clear gb14 gl14 HG14; obtain ⟨_, ce14, hcl14, hM14, hcc14, hfr14, _, _⟩ := Kd.S_elem HO_5.out [] (x6_1 : Int) p14 q14; obtain ⟨ve14_0, rfl, ge14_0⟩ := hM14; have hx14_0 := hcc14 0 _ rfl; have hf14_0 := hfr14 0; (try simp only [show ((Kd.slice 4 Kd.bool)).sz = 1 from rfl, Nat.mul_one, Nat.add_zero] at hx14_0); (try simp only [show ((Kd.slice 4 Kd.bool)).sz = 1 from rfl, Nat.mul_one, Nat.add_zero] at hf14_0); clear hcl14 hcc14 hfr14; (try clear hM14); replace p14 := eq_true p14; replace q14 := eq_true q14; have n_ := Aside0.mk (Kd.S_mono (ok' := (fun k_ => some k_ ≠ (v399 : Value).ownBlock)) HO_5.out (fun k_ hk => hk.2)); clear HO_5; have HO_5 := n_; clear n_; have HX18 := Aside0.mk (show Kd.S (Kd.slice 4 Kd.bool) 86 w16 w.heap.size (fun k_ => ((fun _ => True)) k_ ∧ ¬ ((fun k_ => some k_ = (v399 : Value).ownBlock)) k_) (.slice (some ⟨go14, 0, none⟩) x5_1.length co14) x5_1 from (by (with_reducible repeat (first | apply Kd.S_alloc | apply Kd.S_drewN | apply Kd.S_drew)); exact Kd.S_mono HO_5.out (fun k_ hk => ⟨trivial, fun e_ => hk e_⟩))); obtain ⟨oki18, ce18, hcl18, hM18, hcc18, hfr18, hoki18, hH18⟩ := Kd.S_elem HX18.out [] (x6_1 : Int) (of_decide_eq_true (by first | (with_reducible assumption) | assumption)) (by have h_ : (x6_1 : Int) < ((x5_1.length : Int) : Int) := of_decide_eq_true (by first | (with_reducible assumption) | assumption); first | exact h_ | (have e_ := (Kd.S_reads' HO_5.out).1; omega) | simpa using h_); obtain ⟨ve18_0, rfl, ge18_0⟩ := hM18; have HP18 := Kd.S_seg hH18 (of_decide_eq_true (by first | (with_reducible assumption) | assumption)) (by have h_ : (x6_1 : Int) < ((x5_1.length : Int) : Int) := of_decide_eq_true (by first | (with_reducible assumption) | assumption); first | exact h_ | (have e_ := (Kd.S_reads' HO_5.out).1; omega) | simpa using h_) (seg := [v399]) (j := 0) (show 1 ≤ 1 from by decide) (x' := y398) (Kd.M_row (Kd.R_mono (Kd.R_tight rfl (Kd.R_mono (ok' := fun k_ => ((fun _ => True)) k_ ∧ k_ ≠ go14) (Kd.R_apart' (HO400.out) (Kd.S_typed HO_5.out) (by decide)) (fun k_ hk => ⟨trivial, fun e_ => (hk.2) (by rw [e_]; rfl)⟩))) (fun _ h_ => Or.inr (h_)))) (fun _ hk => hk) (fun k_ hk_ => ((Kd.R_mono (ok' := fun k_ => ((fun _ => True)) k_ ∧ k_ ≠ go14) (Kd.R_apart' (HO400.out) (Kd.S_typed HO_5.out) (by decide)) (fun k_ hk => ⟨trivial, fun e_ => (hk.2) (by rw [e_]; rfl)⟩))).1 k_ hk_.symm); have hx18_0 := hcc18 0 _ rfl; (try simp only [show ((Kd.slice 4 Kd.bool)).sz = 1 from rfl, Nat.mul_one, Nat.add_zero] at hx18_0); have hf18_0 := hfr18 0; (try simp only [show ((Kd.slice 4 Kd.bool)).sz = 1 from rfl, Nat.mul_one, Nat.add_zero] at hf18_0); clear hcl18 hcc18 hfr18 hoki18 hH18; (try clear hM18); (try simp only [show ((Kd.slice 4 Kd.bool)).sz = 1 from rfl, Nat.mul_one, Nat.add_zero] at HP18)) | ((with_reducible refine gate_store (t := 86) (p := 24) rfl ?_); refine store_event (t := 86) (p := 24) (v := ?vo_w19) (w1 := (w16.setCell ⟨go14, (x6_1 : Int).toNat, none⟩ (v399))) ?hg ?ho ?hn ?hr ?_; (case ho => rfl); (case hg => rfl); (case hn => rfl); (case hr => first | (go_simp; done) | (go_simp; rfl) | (obtain ⟨A_, c_, e_⟩ := Kd.R_slice (‹Aside0 (Kd.R _ _ _ _ _ v399 _)›).out; subst e_; first | (go_simp; done) | (go_simp; rfl))); intro w19 hw; have hg : w16.grownBy w19 (some go14) := (by rw [hw]; exact HP18.2); have hp_ : Kd.S (Kd.slice 4 Kd.bool) 86 w19 w.heap.size (fun _ => True) (.slice (some ⟨go14, 0, none⟩) x5_1.length co14) y401 := (by rw [hw, Ny401.out]; exact HP18.1); clear HP18; have n0_ := Aside0.mk (hp_); have n1_ := Aside0.mk (blk_grown (g := gb394) (o := .cells #[.slice A0_0 l0_0.length c0_0] 31 (0, 0)) (bg BK394.out) hg (Kd.S_ne HO_5.out BK394.out (by decide))); have n2_ := Aside0.mk ((by rw [hw]; exact below_set (HB.out) GB14.out : Below w.heap.size w w19)); clear HO_5; clear BK394; clear HB; clear HO400; have HO_5 := n0_; have BK394 := n1_; have HB := n2_; clear n0_ n1_ n2_; clear hg hw hp_))
          go_loopg [7] k1 (fun kq v7 w' => ∃ (x5_2 : List (List Bool)) (x7_2 : Int), v7 = .int .i64 x7_2 ∧ Aside0 (signalbenchref47_ends.l1 kq l1 x5_2 x6_1 x7_2 l0_0 = some r) ∧ Aside0 (kq ≤ k1) ∧ Aside0 (Kd.S (Kd.slice 4 Kd.bool) 86 w' w.heap.size (fun _ => True) (.slice (some ⟨go14, 0, none⟩) x5_1.length co14) x5_2) ∧ Aside0 (w'.heap[gb394]? = some (.cells #[(.slice A0_0 l0_0.length c0_0)] 31 (0, 0))) ∧ Aside0 (Below w.heap.size w w'))
          case atStart => exact ⟨(y401), (0), (by first | rfl | (simp; done) | (simp [*]; done)), H', ⟨Nat.le_refl _⟩, ⟨by (with_reducible repeat (first | apply Kd.S_alloc | apply Kd.S_drewN | apply Kd.S_drew)); exact HO_5.out⟩, ⟨bg BK394.out⟩, ⟨bs HB.out⟩⟩
          case round =>
           clear H'
           try clear c1
           try clear p1
           try clear q1
           try clear hx1
           try clear p2
           try clear c3
           try clear c3b0
           try clear c3b1
           try clear c4
           try clear c4b0
           try clear c4b1
           try clear c6
           try clear c9
           try clear c9b0
           try clear c10
           try clear c10b0
           try clear c10b1
           try clear c11
           try clear c11b0
           try clear c11b1
           try clear c12
           try clear c12b0
           try clear c13
           try clear c13b0
           try clear c14
           try clear p14
           try clear q14
           try clear hx14
           try clear hf14
           try clear c18
           try clear hx18
           try clear hf18
           try clear hcz15_0
           try clear hcz6_0
           try clear hfz15_0
           try clear hfz6_0
           try clear hx14_0
           try clear hx18_0
           try clear p14
           try clear p2
           try clear q14
           obtain ⟨x5_2, x7_2, rfl, HA, HK2, HO_5, BK394, HB⟩ := hrel
           have hl5_2 := (Kd.S_reads' HO_5.out).1
           rw [hl5_2] at HO_5
           (try simp only [hl5_2])
           (try simp only [hl5_2] at BK394)
           cases gk with
           | zero => exact absurd HA.out (by simp [signalbenchref47_ends.l1])
           | succ k2 =>
            have H := HA.out
            clear HA
            simp only [signalbenchref47_ends.l1] at H
            by_cases c20 : x7_2 < (l1.length : Int)
            ·
             rw [if_pos c20] at H
             have c20b0 : decide (x7_2 < (l1.length : Int)) = true := decide_eq_true c20
             clear c20
             by_cases c21 : 0 ≤ x6_1
             ·
              rw [if_pos c21] at H
              have c21b0 : decide (0 ≤ x6_1) = true := decide_eq_true c21
              clear c21
              by_cases c22 : x6_1 < (l0_0.length : Int)
              ·
               rw [if_pos c22] at H
               have c22b0 : decide (x6_1 < (l0_0.length : Int)) = true := decide_eq_true c22
               clear c22
               by_cases c23 : 0 ≤ x7_2
               ·
                rw [if_pos c23] at H
                have c23b0 : decide (0 ≤ x7_2) = true := decide_eq_true c23
                clear c23
                replace H := Option.bind_eq_some_iff.mp H
                obtain ⟨t404, A240, H⟩ := H
                replace H : (if t404 = true then (if x6_1 < (x5_2.length : Int) then (if x6_1 = 0 then (if x7_2 < ((rd_L11 x5_2 x6_1).length : Int) then (signalbenchref47_ends.l1 k2 l1 (x5_2.set (x6_1 : Int).toNat ((rd_L11 x5_2 x6_1).set (x7_2 : Int).toNat true)) x6_1 (wrap64 (x7_2 + 1)) l0_0) else (none)) else (if 0 ≤ (wrap64 (x6_1 - 1)) then (if (wrap64 (x6_1 - 1)) < (x5_2.length : Int) then ((signalbenchref47_before.f k2 l0_0 l1 (rd_L11 x5_2 (wrap64 (x6_1 - 1))) x6_1 x7_2).bind fun t410 => (if x7_2 < ((rd_L11 x5_2 x6_1).length : Int) then (signalbenchref47_ends.l1 k2 l1 (x5_2.set (x6_1 : Int).toNat ((rd_L11 x5_2 x6_1).set (x7_2 : Int).toNat (decide (t410 ≥ 0)))) x6_1 (wrap64 (x7_2 + 1)) l0_0) else (none))) else (none)) else (none))) else (none)) else (signalbenchref47_ends.l1 k2 l1 x5_2 x6_1 (wrap64 (x7_2 + 1)) l0_0)) = some r := H
                have A24 := Aside0.mk A240
                clear A240
                by_cases c25 : t404 = true
                ·
                 subst c25
                 have H1 : (if x6_1 < (x5_2.length : Int) then (if x6_1 = 0 then (if x7_2 < ((rd_L11 x5_2 x6_1).length : Int) then (signalbenchref47_ends.l1 k2 l1 (x5_2.set (x6_1 : Int).toNat ((rd_L11 x5_2 x6_1).set (x7_2 : Int).toNat true)) x6_1 (wrap64 (x7_2 + 1)) l0_0) else (none)) else (if 0 ≤ (wrap64 (x6_1 - 1)) then (if (wrap64 (x6_1 - 1)) < (x5_2.length : Int) then ((signalbenchref47_before.f k2 l0_0 l1 (rd_L11 x5_2 (wrap64 (x6_1 - 1))) x6_1 x7_2).bind fun t410 => (if x7_2 < ((rd_L11 x5_2 x6_1).length : Int) then (signalbenchref47_ends.l1 k2 l1 (x5_2.set (x6_1 : Int).toNat ((rd_L11 x5_2 x6_1).set (x7_2 : Int).toNat (decide (t410 ≥ 0)))) x6_1 (wrap64 (x7_2 + 1)) l0_0) else (none))) else (none)) else (none))) else (none)) = some r := by rw [if_pos rfl] at H; exact H
                 clear H
                 have H := H1
                 clear H1
                 by_cases c26 : x6_1 < (x5_2.length : Int)
                 ·
                  rw [if_pos c26] at H
                  have c26b0 : decide (x6_1 < (x5_2.length : Int)) = true := decide_eq_true c26
                  clear c26
                  by_cases c27 : x6_1 = 0
                  ·
                   rw [if_pos c27] at H
                   have c27b0 : (x6_1 == 0) = true := beq_iff_eq.mpr c27
                   have c27b1 : (x6_1 != 0) = false := bne_eq_false_iff_eq.mpr c27
                   clear c27
                   by_cases c28 : x7_2 < ((rd_L11 x5_2 x6_1).length : Int)
                   ·
                    rw [if_pos c28] at H
                    have c28b0 : decide (x7_2 < ((rd_L11 x5_2 x6_1).length : Int)) = true := decide_eq_true c28
                    clear c28
                    obtain ⟨y406, hy406⟩ : ∃ y_ : List Bool, y_ = ((rd_L11 x5_2 x6_1).set (x7_2 : Int).toNat true) := ⟨_, rfl⟩
                    replace H : (signalbenchref47_ends.l1 k2 l1 (x5_2.set (x6_1 : Int).toNat y406) x6_1 (wrap64 (x7_2 + 1)) l0_0) = some r := by first | (rw [hy406]; with_reducible exact H) | (have H2_ := (Option.bind_some _ _).symm.trans H; rw [hy406]; with_reducible exact H2_) | (have H2_ := (Option.bind_some _ _).symm.trans H; with_reducible exact H2_) | with_reducible exact H | (rw [hy406]; exact H) | exact H
                    have Ny406 := Aside0.mk hy406
                    clear hy406
                    obtain ⟨y408, hy408⟩ : ∃ y_ : List (List Bool), y_ = (x5_2.set (x6_1 : Int).toNat y406) := ⟨_, rfl⟩
                    replace H : (signalbenchref47_ends.l1 k2 l1 y408 x6_1 (wrap64 (x7_2 + 1)) l0_0) = some r := by first | (rw [hy408]; with_reducible exact H) | (have H2_ := (Option.bind_some _ _).symm.trans H; rw [hy408]; with_reducible exact H2_) | (have H2_ := (Option.bind_some _ _).symm.trans H; with_reducible exact H2_) | with_reducible exact H | (rw [hy408]; exact H) | exact H
                    have Ny408 := Aside0.mk hy408
                    clear hy408
                    have H' := Aside0.mk H
                    clear H
                    try go_wp2
                    have n0_ := Aside0.mk (Kd.S_drew HO_5.out)
                    have n1_ := Aside0.mk (blk_drew BK394.out)
                    have n2_ := Aside0.mk (below_drew1 HB.out)
                    clear HO_5
                    clear BK394
                    clear HB
                    have HO_5 := n0_
                    have BK394 := n1_
                    have HB := n2_
                    clear n0_ n1_ n2_
                    have p402 : 0 ≤ (x6_1 : Int) := of_decide_eq_true (by first | (with_reducible assumption) | assumption)
                    have q402 : x6_1 < (l0_0.length : Int) := of_decide_eq_true (by first | (with_reducible assumption) | assumption)
                    obtain ⟨ad402, e402, hx402_0, hx402_1, hx402_2, hx402_3, hx402_4, hx402_5, hx402_6, hx402_7, hx402_8, hx402_9, hx402_10, hx402_11⟩ := at_T50 HR0_0.out x6_1 p402 q402
                    have hw402_11 := hx402_11
                    have hw402_10 := hx402_10
                    have hw402_9 := hx402_9
                    have hw402_8 := hx402_8
                    have hw402_7 := hx402_7
                    have hw402_6 := hx402_6
                    have hw402_5 := hx402_5
                    have hw402_4 := hx402_4
                    have hw402_3 := hx402_3
                    have hw402_2 := hx402_2
                    have hw402_1 := hx402_1
                    have hw402_0 := hx402_0
                    cases e402
                    replace hx402_0 := pw_cell_below HB.out hx402_0
                    replace hx402_1 := pw_cell_below HB.out hx402_1
                    replace hx402_2 := pw_cell_below HB.out hx402_2
                    replace hx402_3 := pw_cell_below HB.out hx402_3
                    replace hx402_4 := pw_cell_below HB.out hx402_4
                    replace hx402_5 := pw_cell_below HB.out hx402_5
                    replace hx402_6 := pw_cell_below HB.out hx402_6
                    replace hx402_7 := pw_cell_below HB.out hx402_7
                    replace hx402_8 := pw_cell_below HB.out hx402_8
                    replace hx402_9 := pw_cell_below HB.out hx402_9
                    replace hx402_10 := pw_cell_below HB.out hx402_10
                    replace hx402_11 := pw_cell_below HB.out hx402_11
                    replace p402 := eq_true p402
                    replace q402 := eq_true q402
                    have p403 : 0 ≤ (x7_2 : Int) := of_decide_eq_true (by first | (with_reducible assumption) | assumption)
                    have q403 : x7_2 < (l1.length : Int) := of_decide_eq_true (by first | (with_reducible assumption) | assumption)
                    obtain ⟨ad403, e403, hx403_0, hx403_1, hx403_2, hx403_3, hx403_4, hx403_5, hx403_6, hx403_7, hx403_8⟩ := at_T46 HR1.out x7_2 p403 q403
                    have hw403_8 := hx403_8
                    have hw403_7 := hx403_7
                    have hw403_6 := hx403_6
                    have hw403_5 := hx403_5
                    have hw403_4 := hx403_4
                    have hw403_3 := hx403_3
                    have hw403_2 := hx403_2
                    have hw403_1 := hx403_1
                    have hw403_0 := hx403_0
                    cases e403
                    replace hx403_0 := pw_cell_below HB.out hx403_0
                    replace hx403_1 := pw_cell_below HB.out hx403_1
                    replace hx403_2 := pw_cell_below HB.out hx403_2
                    replace hx403_3 := pw_cell_below HB.out hx403_3
                    replace hx403_4 := pw_cell_below HB.out hx403_4
                    replace hx403_5 := pw_cell_below HB.out hx403_5
                    replace hx403_6 := pw_cell_below HB.out hx403_6
                    replace hx403_7 := pw_cell_below HB.out hx403_7
                    replace hx403_8 := pw_cell_below HB.out hx403_8
                    replace p403 := eq_true p403
                    replace q403 := eq_true q403
                    refine start_ (n := 11) (S := fun w' => w'.cell? ⟨gb394, 0, none⟩ = some (.slice (some ad402) l0_0.length c0_0) ∧ w'.cell? (ad402.add ((x6_1).toNat * 12)) = some (.int .i64 ((rd_T50 l0_0 x6_1).f0.f0)) ∧ w'.cell? ⟨(ad402.add ((x6_1).toNat * 12)).block, (ad402.add ((x6_1).toNat * 12)).off + 1, none⟩ = some (.int .i64 ((rd_T50 l0_0 x6_1).f0.f1)) ∧ w'.cell? ⟨(ad402.add ((x6_1).toNat * 12)).block, (ad402.add ((x6_1).toNat * 12)).off + 2, none⟩ = some (.int .i64 ((rd_T50 l0_0 x6_1).f0.f2)) ∧ w'.cell? ⟨(ad402.add ((x6_1).toNat * 12)).block, (ad402.add ((x6_1).toNat * 12)).off + 3, none⟩ = some (.int .i64 ((rd_T50 l0_0 x6_1).f0.f3)) ∧ w'.cell? ⟨(ad402.add ((x6_1).toNat * 12)).block, (ad402.add ((x6_1).toNat * 12)).off + 4, none⟩ = some (.int .i64 ((rd_T50 l0_0 x6_1).f0.f4)) ∧ w'.cell? ⟨(ad402.add ((x6_1).toNat * 12)).block, (ad402.add ((x6_1).toNat * 12)).off + 5, none⟩ = some (.int .i64 ((rd_T50 l0_0 x6_1).f1)) ∧ w'.cell? ⟨(ad402.add ((x6_1).toNat * 12)).block, (ad402.add ((x6_1).toNat * 12)).off + 6, none⟩ = some (.bool ((rd_T50 l0_0 x6_1).f2)) ∧ w'.cell? ⟨(ad402.add ((x6_1).toNat * 12)).block, (ad402.add ((x6_1).toNat * 12)).off + 7, none⟩ = some (.int .i64 ((rd_T50 l0_0 x6_1).f3.f0)) ∧ w'.cell? ⟨(ad402.add ((x6_1).toNat * 12)).block, (ad402.add ((x6_1).toNat * 12)).off + 8, none⟩ = some (.int .i64 ((rd_T50 l0_0 x6_1).f3.f1)) ∧ w'.cell? ⟨(ad402.add ((x6_1).toNat * 12)).block, (ad402.add ((x6_1).toNat * 12)).off + 9, none⟩ = some (.int .i64 ((rd_T50 l0_0 x6_1).f3.f2)) ∧ w'.cell? ⟨(ad402.add ((x6_1).toNat * 12)).block, (ad402.add ((x6_1).toNat * 12)).off + 10, none⟩ = some (.int .i64 ((rd_T50 l0_0 x6_1).f3.f3)) ∧ w'.cell? ⟨(ad402.add ((x6_1).toNat * 12)).block, (ad402.add ((x6_1).toNat * 12)).off + 11, none⟩ = some (.int .i64 ((rd_T50 l0_0 x6_1).f3.f4)) ∧ w'.cell? (ad403.add ((x7_2).toNat * 9)) = some (.int .i64 ((rd_T46 l1 x7_2).f0)) ∧ w'.cell? ⟨(ad403.add ((x7_2).toNat * 9)).block, (ad403.add ((x7_2).toNat * 9)).off + 1, none⟩ = some (.int .i64 ((rd_T46 l1 x7_2).f1)) ∧ w'.cell? ⟨(ad403.add ((x7_2).toNat * 9)).block, (ad403.add ((x7_2).toNat * 9)).off + 2, none⟩ = some (.int .i64 ((rd_T46 l1 x7_2).f2.f0)) ∧ w'.cell? ⟨(ad403.add ((x7_2).toNat * 9)).block, (ad403.add ((x7_2).toNat * 9)).off + 3, none⟩ = some (.int .i64 ((rd_T46 l1 x7_2).f2.f1)) ∧ w'.cell? ⟨(ad403.add ((x7_2).toNat * 9)).block, (ad403.add ((x7_2).toNat * 9)).off + 4, none⟩ = some (.int .i64 ((rd_T46 l1 x7_2).f2.f2)) ∧ w'.cell? ⟨(ad403.add ((x7_2).toNat * 9)).block, (ad403.add ((x7_2).toNat * 9)).off + 5, none⟩ = some (.int .i64 ((rd_T46 l1 x7_2).f2.f3)) ∧ w'.cell? ⟨(ad403.add ((x7_2).toNat * 9)).block, (ad403.add ((x7_2).toNat * 9)).off + 6, none⟩ = some (.int .i64 ((rd_T46 l1 x7_2).f2.f4)) ∧ w'.cell? ⟨(ad403.add ((x7_2).toNat * 9)).block, (ad403.add ((x7_2).toNat * 9)).off + 7, none⟩ = some (.string ((rd_T46 l1 x7_2).f2.f5)) ∧ w'.cell? ⟨(ad403.add ((x7_2).toNat * 9)).block, (ad403.add ((x7_2).toNat * 9)).off + 8, none⟩ = some (.int .i64 ((rd_T46 l1 x7_2).f2.f6))) (ds := []) (bsq 0 11) (by kernel_rfl) rfl rfl ⟨(blk_cell BK394.out 0).trans rfl, ((HB.out.cell (World.block_lt_of_cell? w _ hw402_0)).trans hw402_0), ((HB.out.cell (World.block_lt_of_cell? w _ hw402_1)).trans hw402_1), ((HB.out.cell (World.block_lt_of_cell? w _ hw402_2)).trans hw402_2), ((HB.out.cell (World.block_lt_of_cell? w _ hw402_3)).trans hw402_3), ((HB.out.cell (World.block_lt_of_cell? w _ hw402_4)).trans hw402_4), ((HB.out.cell (World.block_lt_of_cell? w _ hw402_5)).trans hw402_5), ((HB.out.cell (World.block_lt_of_cell? w _ hw402_6)).trans hw402_6), ((HB.out.cell (World.block_lt_of_cell? w _ hw402_7)).trans hw402_7), ((HB.out.cell (World.block_lt_of_cell? w _ hw402_8)).trans hw402_8), ((HB.out.cell (World.block_lt_of_cell? w _ hw402_9)).trans hw402_9), ((HB.out.cell (World.block_lt_of_cell? w _ hw402_10)).trans hw402_10), ((HB.out.cell (World.block_lt_of_cell? w _ hw402_11)).trans hw402_11), ((HB.out.cell (World.block_lt_of_cell? w _ hw403_0)).trans hw403_0), ((HB.out.cell (World.block_lt_of_cell? w _ hw403_1)).trans hw403_1), ((HB.out.cell (World.block_lt_of_cell? w _ hw403_2)).trans hw403_2), ((HB.out.cell (World.block_lt_of_cell? w _ hw403_3)).trans hw403_3), ((HB.out.cell (World.block_lt_of_cell? w _ hw403_4)).trans hw403_4), ((HB.out.cell (World.block_lt_of_cell? w _ hw403_5)).trans hw403_5), ((HB.out.cell (World.block_lt_of_cell? w _ hw403_6)).trans hw403_6), ((HB.out.cell (World.block_lt_of_cell? w _ hw403_7)).trans hw403_7), ((HB.out.cell (World.block_lt_of_cell? w _ hw403_8)).trans hw403_8)⟩ (fun hHeld => ?_); refine with_tabW signalbenchref47_ends.tab9 signalbenchref47_ends.bits9 (fun HT_ HW_ => ?_)
                    generalize wr.drew = w30 at HO_5 BK394 HB hx402_0 hx402_1 hx402_10 hx402_11 hx402_2 hx402_3 hx402_4 hx402_5 hx402_6 hx402_7 hx402_8 hx402_9 hx403_0 hx403_1 hx403_2 hx403_3 hx403_4 hx403_5 hx403_6 hx403_7 hx403_8 hHeld ⊢
                    refine pu 0 31 (bsq 1 10) ?_
                    refine pu 2 33 (bls [1, 1, 1, 8]) ?_
                    refine pu 6 37 (bls [1, 1, 1, 3, 1, 4]) ?_
                    refine pu 7 38 (bls [1, 1, 1, 3, 2, 3]) ?_
                    refine pu 8 39 (bls [1, 1, 1, 3, 3, 2]) ?_
                    refine tk 1 32 (bls [3, 3, 3, 2]) hHeld ?_ (he := by rintro w' ⟨s0, s1, s2, s3, s4, s5, s6, s7, s8, s9, s10, s11, s12, s13, s14, s15, s16, s17, s18, s19, s20, s21⟩; go_simp; with_reducible rfl)
                    refine pu 3 34 (bls [4, 2, 3, 2]) ?_
                    refine pu 4 35 (bls [5, 1, 3, 2]) ?_
                    refine tk 5 36 (bsq 9 2) hHeld ?_ (he := by rintro w' ⟨s0, s1, s2, s3, s4, s5, s6, s7, s8, s9, s10, s11, s12, s13, s14, s15, s16, s17, s18, s19, s20, s21⟩; go_simp; with_reducible rfl)
                    refine tk 9 40 (bsq 10 1) hHeld ?_ (he := by rintro w' ⟨s0, s1, s2, s3, s4, s5, s6, s7, s8, s9, s10, s11, s12, s13, s14, s15, s16, s17, s18, s19, s20, s21⟩; go_simp; with_reducible rfl)
                    refine one_ (i := 10) (N := some 41) (bsq 11 0) rfl rfl (one_of HT_.out (by kernel_rfl)) (by decide) (fun K hK => ?_)
                    refine goes_ Try.func59 (by kernel_rfl) rfl #[.agg #[.int .i64 ((rd_T50 l0_0 x6_1).f0.f0), .int .i64 ((rd_T50 l0_0 x6_1).f0.f1), .int .i64 ((rd_T50 l0_0 x6_1).f0.f2), .int .i64 ((rd_T50 l0_0 x6_1).f0.f3), .int .i64 ((rd_T50 l0_0 x6_1).f0.f4)], .agg #[.int .i64 ((rd_T46 l1 x7_2).f0), .int .i64 ((rd_T46 l1 x7_2).f1), .int .i64 ((rd_T46 l1 x7_2).f2.f0), .int .i64 ((rd_T46 l1 x7_2).f2.f1), .int .i64 ((rd_T46 l1 x7_2).f2.f2), .int .i64 ((rd_T46 l1 x7_2).f2.f3), .int .i64 ((rd_T46 l1 x7_2).f2.f4), .string ((rd_T46 l1 x7_2).f2.f5), .int .i64 ((rd_T46 l1 x7_2).f2.f6)]] (by rfl) rfl rfl (by (try simp only [List.map_toArray, List.map_cons, List.map_nil]); first | done | rfl | (simp only [List.length_drop, List.length_take]; rfl)) ?_
                    with_reducible refine (signalbenchref47_satisfies.calls k2 ((rd_T50 l0_0 x6_1).f0.f0) ((rd_T50 l0_0 x6_1).f0.f1) ((rd_T50 l0_0 x6_1).f0.f2) ((rd_T50 l0_0 x6_1).f0.f3) ((rd_T50 l0_0 x6_1).f0.f4) ((rd_T46 l1 x7_2).f0) ((rd_T46 l1 x7_2).f1) ((rd_T46 l1 x7_2).f2.f0) ((rd_T46 l1 x7_2).f2.f1) ((rd_T46 l1 x7_2).f2.f2) ((rd_T46 l1 x7_2).f2.f3) ((rd_T46 l1 x7_2).f2.f4) ((rd_T46 l1 x7_2).f2.f5) ((rd_T46 l1 x7_2).f2.f6) true _ A24.out).mono ?_
                    rintro e w31 ⟨rfl, hb⟩
                    refine ⟨_, rfl, ?_⟩
                    have n0_ := Aside0.mk (Kd.S_below (by (with_reducible repeat (first | apply Kd.S_alloc | apply Kd.S_drewN | apply Kd.S_drew)); exact HO_5.out) hb)
                    have n1_ := Aside0.mk (blk_below (bg BK394.out) hb)
                    have n2_ := Aside0.mk (below_step (bs HB.out) hb)
                    clear HO_5
                    clear BK394
                    clear HB
                    have HO_5 := n0_
                    have BK394 := n1_
                    have HB := n2_
                    clear n0_ n1_ n2_
                    (try clear hb)
                    (try clear hb2)
                    (try clear hk)
                    (try clear hi)
                    refine hK.out _ _ ⟨(blk_cell BK394.out 0).trans rfl, ((HB.out.cell (World.block_lt_of_cell? w _ hw402_0)).trans hw402_0), ((HB.out.cell (World.block_lt_of_cell? w _ hw402_1)).trans hw402_1), ((HB.out.cell (World.block_lt_of_cell? w _ hw402_2)).trans hw402_2), ((HB.out.cell (World.block_lt_of_cell? w _ hw402_3)).trans hw402_3), ((HB.out.cell (World.block_lt_of_cell? w _ hw402_4)).trans hw402_4), ((HB.out.cell (World.block_lt_of_cell? w _ hw402_5)).trans hw402_5), ((HB.out.cell (World.block_lt_of_cell? w _ hw402_6)).trans hw402_6), ((HB.out.cell (World.block_lt_of_cell? w _ hw402_7)).trans hw402_7), ((HB.out.cell (World.block_lt_of_cell? w _ hw402_8)).trans hw402_8), ((HB.out.cell (World.block_lt_of_cell? w _ hw402_9)).trans hw402_9), ((HB.out.cell (World.block_lt_of_cell? w _ hw402_10)).trans hw402_10), ((HB.out.cell (World.block_lt_of_cell? w _ hw402_11)).trans hw402_11), ((HB.out.cell (World.block_lt_of_cell? w _ hw403_0)).trans hw403_0), ((HB.out.cell (World.block_lt_of_cell? w _ hw403_1)).trans hw403_1), ((HB.out.cell (World.block_lt_of_cell? w _ hw403_2)).trans hw403_2), ((HB.out.cell (World.block_lt_of_cell? w _ hw403_3)).trans hw403_3), ((HB.out.cell (World.block_lt_of_cell? w _ hw403_4)).trans hw403_4), ((HB.out.cell (World.block_lt_of_cell? w _ hw403_5)).trans hw403_5), ((HB.out.cell (World.block_lt_of_cell? w _ hw403_6)).trans hw403_6), ((HB.out.cell (World.block_lt_of_cell? w _ hw403_7)).trans hw403_7), ((HB.out.cell (World.block_lt_of_cell? w _ hw403_8)).trans hw403_8)⟩ (fun hHeld => ?_)
                    clear hK K
                    refine norm_ (a' := ?_) ?_ ?_
                    rotate_left
                    ·
                     show Act.put _ (some 41) _ = _
                     simp only [Act.put, List.setIfInBounds_toArray, List.set_cons_zero, List.set_cons_succ, i64_w, i32_w]
                     rfl
                    refine done_ (done_of HT_.out (by kernel_rfl)) ?_
                    try go_wp2
                    have n0_ := Aside0.mk (Kd.S_drew HO_5.out)
                    have n1_ := Aside0.mk (blk_drew BK394.out)
                    have n2_ := Aside0.mk (below_drew1 HB.out)
                    clear HO_5
                    clear BK394
                    clear HB
                    have HO_5 := n0_
                    have BK394 := n1_
                    have HB := n2_
                    clear n0_ n1_ n2_
                    have p405 : 0 ≤ (x6_1 : Int) := of_decide_eq_true (by first | (with_reducible assumption) | assumption)
                    have q405 : x6_1 < (x5_2.length : Int) := of_decide_eq_true (by first | (with_reducible assumption) | assumption)
                    obtain ⟨ad405, A405_0, c405_0, e405, hx405_0, hl405_0, hi405_0⟩ := at_L11 (Kd.S_reads' HO_5.out).2.2 x6_1 p405 q405
                    obtain rfl : (⟨go14, 0, none⟩ : Addr) = ad405 := (by injection e405)
                    obtain ⟨ce405, hce405, hMe405, hcc405⟩ := Kd.S_get HO_5.out [] x6_1 p405 (by first | exact q405 | exact of_decide_eq_true (by first | (with_reducible assumption) | assumption) | (have e_ := (Kd.S_reads' HO_5.out).1; omega))
                    obtain ⟨ve405_0, rfl, ge405_0⟩ := hMe405
                    have hv405_0 := hcc405 0 _ rfl
                    rw [Nat.add_zero, show ((Kd.slice 4 Kd.bool)).sz = 1 from rfl, Nat.mul_one] at hv405_0
                    replace hv405_0 := Option.some.inj (hv405_0.symm.trans hx405_0)
                    rw [hv405_0] at ge405_0
                    have HL405_0 := Aside0.mk (show Kd.R Kd.bool 4 _ _ _ _ (rd_L11 x5_2 x6_1) from ge405_0)
                    clear hv405_0 ge405_0
                    have HX405_0 := Aside0.mk hx405_0
                    clear hcc405 hce405
                    (first | simp only [add_plain] at hx405_0 | simp only [add_at] at hx405_0 | simp only [Addr.add, Nat.zero_add] at hx405_0 | skip)
                    have HR405_0 := Aside0.mk hi405_0
                    have HC405_0 := Aside0.mk hl405_0
                    clear hi405_0 hl405_0
                    replace p405 := eq_true p405
                    replace q405 := eq_true q405
                    have p29 : 0 ≤ (x7_2 : Int) := of_decide_eq_true (by first | (with_reducible assumption) | assumption)
                    have q29 : (x7_2 : Int) < (((rd_L11 x5_2 x6_1).length : Int) : Int) := of_decide_eq_true (by first | (with_reducible assumption) | assumption)
                    obtain ⟨go29, co29, eo29, gb29, gl29, cl29, HG29⟩ := Kd.R_form HL405_0.out (by omega)
                    (first | cases eo29 | (injection eo29 with ea_ en_ ec_; (first | subst ea_ | (injection ea_ with ea_; subst ea_)); subst ec_; clear en_))
                    have GB29 := Aside0.mk gb29
                    have GG29 := Aside0.mk HG29
                    clear gb29 gl29 HG29
                    obtain ⟨hx29_0, hf29_0⟩ := Kd.R_celln false HL405_0.out (x7_2 : Int) p29 q29
                    replace p29 := eq_true p29
                    replace q29 := eq_true q29
                    have hq33 : (x6_1 : Int) < (x5_2.length : Int) := (by have h_ : (x6_1 : Int) < ((x5_2.length : Int) : Int) := of_decide_eq_true (by first | (with_reducible assumption) | assumption); first | exact h_ | (have e_ := (Kd.S_reads' HO_5.out).1; omega) | simpa only [List.length_set, List.length_set] using h_)
                    obtain ⟨oki33, ce33, hcl33, hM33, hcc33, hok33, hbk33⟩ := Kd.S_borrow HO_5.out [] (x6_1 : Int) (of_decide_eq_true (by first | (with_reducible assumption) | assumption)) hq33
                    obtain ⟨ve33_0, rfl, ge33_0⟩ := hM33
                    have hv33 := hcc33 0 _ rfl
                    rw [Nat.add_zero, show ((Kd.slice 4 Kd.bool)).sz = 1 from rfl, Nat.mul_one] at hv33
                    replace hv33 := Option.some.inj (hv33.symm.trans HX405_0.out)
                    subst hv33
                    clear hcc33 hcl33
                    replace ge33_0 := (show Kd.R Kd.bool 4 _ _ _ _ (rd_L11 x5_2 x6_1) from ge33_0)
                    have HP33 := Kd.R_putg ge33_0 (x7_2 : Int) true
                    rw [← Ny406.out] at HP33
                    have HS33 := hbk33 HP33.2 (fun k_ e_ => by injection e_ with e_; subst e_; exact ge33_0.1 _ rfl) (x' := y406) (Kd.M_row HP33.1)
                    rw [← Ny408.out] at HS33
                    have HQ33 := Aside0.mk HS33
                    clear HP33 HS33 hbk33 hok33
                    refine start_ (n := 22) (S := fun w' => w'.cell? ⟨go14, (x6_1).toNat, none⟩ = some (.slice (some ⟨go29, 0, none⟩) (rd_L11 x5_2 x6_1).length c405_0)) (ds := [21]) (bsq 0 22) (by kernel_rfl) rfl rfl (hx405_0) (fun hHeld => ?_); refine with_tabW signalbenchref47_ends.tab10 signalbenchref47_ends.bits10 (fun HT_ HW_ => ?_)
                    generalize w31.drew = w32 at HO_5 BK394 HB GG29 HL405_0 HQ33 HR405_0 HX405_0 hf29_0 hx29_0 hx405_0 hHeld ⊢
                    refine pu 0 42 (bsq 1 21) ?_
                    refine pu 1 43 (bsq 2 20) ?_
                    refine pu 2 44 (bsq 3 19) ?_
                    refine pu 4 46 (bls [3, 1, 1, 17]) ?_
                    refine pu 5 47 (bls [3, 1, 2, 16]) ?_
                    refine pu 6 48 (bls [3, 1, 3, 15]) ?_
                    refine pu 7 49 (bls [3, 1, 4, 14]) ?_
                    refine un 8 50 (bls [3, 1, 5, 13]) ?_
                    refine un 9 51 (bls [3, 1, 6, 12]) ?_
                    refine un 10 52 (bls [3, 1, 7, 11]) ?_
                    refine un 11 53 (bls [3, 1, 8, 10]) ?_
                    refine un 12 54 (bls [3, 1, 9, 9]) ?_
                    refine un 13 55 (bls [3, 1, 10, 8]) ?_
                    refine un 14 56 (bls [3, 1, 11, 7]) ?_
                    refine un 15 57 (bls [3, 1, 12, 6]) ?_
                    refine un 16 58 (bls [3, 1, 13, 5]) ?_
                    refine un 17 59 (bls [3, 1, 14, 4]) ?_
                    refine un 18 60 (bls [3, 1, 15, 3]) ?_
                    refine pu 19 61 (bls [3, 1, 16, 2]) ?_
                    refine tk 3 45 (bsq 20 2) hHeld ?_ (he := by intro w' s0; go_simp; with_reducible rfl)
                    refine pu 20 62 (bsq 21 1) ?_
                    refine last_ (i := 21) (N := none) (bsq 22 0) rfl rfl (one_of HT_.out (by kernel_rfl)) (by decide) (fun K hK => ?_)
                    refine skip_ (w1 := ?_) (by rfl) rfl ?_ ?_
                    rotate_left
                    ·
                     go_simp
                     rfl
                    refine hK.out _ _ ?_
                    clear hK K
                    refine done_ (done_of HT_.out (by kernel_rfl)) ?_
                    try go_wp2
                    (try simp only [← hl5_2])
                    go_roundg k2
                    case measure => have := HK1.out; have := HK2.out; omega
                    case rel => exact ⟨(y408), (wrap64 (x7_2 + 1)), (by first | rfl | (simp; done) | (simp [*]; done)), H', ⟨by have := HK1.out; have := HK2.out; omega⟩, ⟨by (try simp only [hl5_2]); (with_reducible repeat (first | apply Kd.S_alloc | apply Kd.S_drewN | apply Kd.S_drew)); exact HQ33.out⟩, ⟨by (try simp only [hl5_2]); (with_reducible repeat (first | refine blk_drewN ?_ _ | refine blk_drew ?_ | refine blk_alloc ?_ _)); refine blk_far ?_ (by have h_ := Kd.R_ne HL405_0.out BK394.out (by decide); intro e_; exact h_ (by rw [e_]; rfl)) _; exact bg BK394.out⟩, ⟨by repeat (first | (with_reducible first | exact HB.out | apply below_alloc | apply pw_below_drewN | apply below_drew1 | refine below_set ?_ GB29.out | refine below_set ?_ GE394.out) | exact HB.out)⟩⟩
                   ·
                    rw [if_neg c28] at H
                    exact absurd H (by simp)
                  ·
                   rw [if_neg c27] at H
                   have c27b0 : (x6_1 == 0) = false := beq_eq_false_iff_ne.mpr c27
                   have c27b1 : (x6_1 != 0) = true := bne_iff_ne.mpr c27
                   obtain ⟨ji35, hji35⟩ : ∃ j_ : Int, (wrap64 (x6_1 - 1)) = j_ := ⟨_, rfl⟩
                   replace H : (if 0 ≤ (ji35) then (if (ji35) < (x5_2.length : Int) then ((signalbenchref47_before.f k2 l0_0 l1 (rd_L11 x5_2 (ji35)) x6_1 x7_2).bind fun t410 => (if x7_2 < ((rd_L11 x5_2 x6_1).length : Int) then (signalbenchref47_ends.l1 k2 l1 (x5_2.set (x6_1 : Int).toNat ((rd_L11 x5_2 x6_1).set (x7_2 : Int).toNat (decide (t410 ≥ 0)))) x6_1 (wrap64 (x7_2 + 1)) l0_0) else (none))) else (none)) else (none)) = some r := by first | (rw [hji35] at H; exact H) | (simp only [hji35] at H ⊢; exact H)
                   (try rw [hji35] at A24)
                   have hji35w : (IntKind.i64.wrap (x6_1 - 1)) = ji35 := (i64_w _).trans hji35
                   by_cases c36 : 0 ≤ (ji35)
                   ·
                    rw [if_pos c36] at H
                    have c36b0 : decide (0 ≤ (ji35)) = true := decide_eq_true c36
                    clear c36
                    by_cases c37 : (ji35) < (x5_2.length : Int)
                    ·
                     rw [if_pos c37] at H
                     have c37b0 : decide ((ji35) < (x5_2.length : Int)) = true := decide_eq_true c37
                     clear c37
                     replace H := Option.bind_eq_some_iff.mp H
                     obtain ⟨t410, A380, H⟩ := H
                     replace H : (if x7_2 < ((rd_L11 x5_2 x6_1).length : Int) then (signalbenchref47_ends.l1 k2 l1 (x5_2.set (x6_1 : Int).toNat ((rd_L11 x5_2 x6_1).set (x7_2 : Int).toNat (decide (t410 ≥ 0)))) x6_1 (wrap64 (x7_2 + 1)) l0_0) else (none)) = some r := H
                     have A38 := Aside0.mk A380
                     clear A380
                     by_cases c39 : x7_2 < ((rd_L11 x5_2 x6_1).length : Int)
                     ·
                      rw [if_pos c39] at H
                      have c39b0 : decide (x7_2 < ((rd_L11 x5_2 x6_1).length : Int)) = true := decide_eq_true c39
                      clear c39
                      obtain ⟨y411, hy411⟩ : ∃ y_ : List Bool, y_ = ((rd_L11 x5_2 x6_1).set (x7_2 : Int).toNat (decide (t410 ≥ 0))) := ⟨_, rfl⟩
                      replace H : (signalbenchref47_ends.l1 k2 l1 (x5_2.set (x6_1 : Int).toNat y411) x6_1 (wrap64 (x7_2 + 1)) l0_0) = some r := by first | (rw [hy411]; with_reducible exact H) | (have H2_ := (Option.bind_some _ _).symm.trans H; rw [hy411]; with_reducible exact H2_) | (have H2_ := (Option.bind_some _ _).symm.trans H; with_reducible exact H2_) | with_reducible exact H | (rw [hy411]; exact H) | exact H
                      have Ny411 := Aside0.mk hy411
                      clear hy411
                      obtain ⟨y413, hy413⟩ : ∃ y_ : List (List Bool), y_ = (x5_2.set (x6_1 : Int).toNat y411) := ⟨_, rfl⟩
                      replace H : (signalbenchref47_ends.l1 k2 l1 y413 x6_1 (wrap64 (x7_2 + 1)) l0_0) = some r := by first | (rw [hy413]; with_reducible exact H) | (have H2_ := (Option.bind_some _ _).symm.trans H; rw [hy413]; with_reducible exact H2_) | (have H2_ := (Option.bind_some _ _).symm.trans H; with_reducible exact H2_) | with_reducible exact H | (rw [hy413]; exact H) | exact H
                      have Ny413 := Aside0.mk hy413
                      clear hy413
                      have H' := Aside0.mk H
                      clear H
                      try go_wp2
                      have n0_ := Aside0.mk (Kd.S_drew HO_5.out)
                      have n1_ := Aside0.mk (blk_drew BK394.out)
                      have n2_ := Aside0.mk (below_drew1 HB.out)
                      clear HO_5
                      clear BK394
                      clear HB
                      have HO_5 := n0_
                      have BK394 := n1_
                      have HB := n2_
                      clear n0_ n1_ n2_
                      have p402 : 0 ≤ (x6_1 : Int) := of_decide_eq_true (by first | (with_reducible assumption) | assumption)
                      have q402 : x6_1 < (l0_0.length : Int) := of_decide_eq_true (by first | (with_reducible assumption) | assumption)
                      obtain ⟨ad402, e402, hx402_0, hx402_1, hx402_2, hx402_3, hx402_4, hx402_5, hx402_6, hx402_7, hx402_8, hx402_9, hx402_10, hx402_11⟩ := at_T50 HR0_0.out x6_1 p402 q402
                      have hw402_11 := hx402_11
                      have hw402_10 := hx402_10
                      have hw402_9 := hx402_9
                      have hw402_8 := hx402_8
                      have hw402_7 := hx402_7
                      have hw402_6 := hx402_6
                      have hw402_5 := hx402_5
                      have hw402_4 := hx402_4
                      have hw402_3 := hx402_3
                      have hw402_2 := hx402_2
                      have hw402_1 := hx402_1
                      have hw402_0 := hx402_0
                      cases e402
                      replace hx402_0 := pw_cell_below HB.out hx402_0
                      replace hx402_1 := pw_cell_below HB.out hx402_1
                      replace hx402_2 := pw_cell_below HB.out hx402_2
                      replace hx402_3 := pw_cell_below HB.out hx402_3
                      replace hx402_4 := pw_cell_below HB.out hx402_4
                      replace hx402_5 := pw_cell_below HB.out hx402_5
                      replace hx402_6 := pw_cell_below HB.out hx402_6
                      replace hx402_7 := pw_cell_below HB.out hx402_7
                      replace hx402_8 := pw_cell_below HB.out hx402_8
                      replace hx402_9 := pw_cell_below HB.out hx402_9
                      replace hx402_10 := pw_cell_below HB.out hx402_10
                      replace hx402_11 := pw_cell_below HB.out hx402_11
                      replace p402 := eq_true p402
                      replace q402 := eq_true q402
                      have p403 : 0 ≤ (x7_2 : Int) := of_decide_eq_true (by first | (with_reducible assumption) | assumption)
                      have q403 : x7_2 < (l1.length : Int) := of_decide_eq_true (by first | (with_reducible assumption) | assumption)
                      obtain ⟨ad403, e403, hx403_0, hx403_1, hx403_2, hx403_3, hx403_4, hx403_5, hx403_6, hx403_7, hx403_8⟩ := at_T46 HR1.out x7_2 p403 q403
                      have hw403_8 := hx403_8
                      have hw403_7 := hx403_7
                      have hw403_6 := hx403_6
                      have hw403_5 := hx403_5
                      have hw403_4 := hx403_4
                      have hw403_3 := hx403_3
                      have hw403_2 := hx403_2
                      have hw403_1 := hx403_1
                      have hw403_0 := hx403_0
                      cases e403
                      replace hx403_0 := pw_cell_below HB.out hx403_0
                      replace hx403_1 := pw_cell_below HB.out hx403_1
                      replace hx403_2 := pw_cell_below HB.out hx403_2
                      replace hx403_3 := pw_cell_below HB.out hx403_3
                      replace hx403_4 := pw_cell_below HB.out hx403_4
                      replace hx403_5 := pw_cell_below HB.out hx403_5
                      replace hx403_6 := pw_cell_below HB.out hx403_6
                      replace hx403_7 := pw_cell_below HB.out hx403_7
                      replace hx403_8 := pw_cell_below HB.out hx403_8
                      replace p403 := eq_true p403
                      replace q403 := eq_true q403
                      refine start_ (n := 11) (S := fun w' => w'.cell? ⟨gb394, 0, none⟩ = some (.slice (some ad402) l0_0.length c0_0) ∧ w'.cell? (ad402.add ((x6_1).toNat * 12)) = some (.int .i64 ((rd_T50 l0_0 x6_1).f0.f0)) ∧ w'.cell? ⟨(ad402.add ((x6_1).toNat * 12)).block, (ad402.add ((x6_1).toNat * 12)).off + 1, none⟩ = some (.int .i64 ((rd_T50 l0_0 x6_1).f0.f1)) ∧ w'.cell? ⟨(ad402.add ((x6_1).toNat * 12)).block, (ad402.add ((x6_1).toNat * 12)).off + 2, none⟩ = some (.int .i64 ((rd_T50 l0_0 x6_1).f0.f2)) ∧ w'.cell? ⟨(ad402.add ((x6_1).toNat * 12)).block, (ad402.add ((x6_1).toNat * 12)).off + 3, none⟩ = some (.int .i64 ((rd_T50 l0_0 x6_1).f0.f3)) ∧ w'.cell? ⟨(ad402.add ((x6_1).toNat * 12)).block, (ad402.add ((x6_1).toNat * 12)).off + 4, none⟩ = some (.int .i64 ((rd_T50 l0_0 x6_1).f0.f4)) ∧ w'.cell? ⟨(ad402.add ((x6_1).toNat * 12)).block, (ad402.add ((x6_1).toNat * 12)).off + 5, none⟩ = some (.int .i64 ((rd_T50 l0_0 x6_1).f1)) ∧ w'.cell? ⟨(ad402.add ((x6_1).toNat * 12)).block, (ad402.add ((x6_1).toNat * 12)).off + 6, none⟩ = some (.bool ((rd_T50 l0_0 x6_1).f2)) ∧ w'.cell? ⟨(ad402.add ((x6_1).toNat * 12)).block, (ad402.add ((x6_1).toNat * 12)).off + 7, none⟩ = some (.int .i64 ((rd_T50 l0_0 x6_1).f3.f0)) ∧ w'.cell? ⟨(ad402.add ((x6_1).toNat * 12)).block, (ad402.add ((x6_1).toNat * 12)).off + 8, none⟩ = some (.int .i64 ((rd_T50 l0_0 x6_1).f3.f1)) ∧ w'.cell? ⟨(ad402.add ((x6_1).toNat * 12)).block, (ad402.add ((x6_1).toNat * 12)).off + 9, none⟩ = some (.int .i64 ((rd_T50 l0_0 x6_1).f3.f2)) ∧ w'.cell? ⟨(ad402.add ((x6_1).toNat * 12)).block, (ad402.add ((x6_1).toNat * 12)).off + 10, none⟩ = some (.int .i64 ((rd_T50 l0_0 x6_1).f3.f3)) ∧ w'.cell? ⟨(ad402.add ((x6_1).toNat * 12)).block, (ad402.add ((x6_1).toNat * 12)).off + 11, none⟩ = some (.int .i64 ((rd_T50 l0_0 x6_1).f3.f4)) ∧ w'.cell? (ad403.add ((x7_2).toNat * 9)) = some (.int .i64 ((rd_T46 l1 x7_2).f0)) ∧ w'.cell? ⟨(ad403.add ((x7_2).toNat * 9)).block, (ad403.add ((x7_2).toNat * 9)).off + 1, none⟩ = some (.int .i64 ((rd_T46 l1 x7_2).f1)) ∧ w'.cell? ⟨(ad403.add ((x7_2).toNat * 9)).block, (ad403.add ((x7_2).toNat * 9)).off + 2, none⟩ = some (.int .i64 ((rd_T46 l1 x7_2).f2.f0)) ∧ w'.cell? ⟨(ad403.add ((x7_2).toNat * 9)).block, (ad403.add ((x7_2).toNat * 9)).off + 3, none⟩ = some (.int .i64 ((rd_T46 l1 x7_2).f2.f1)) ∧ w'.cell? ⟨(ad403.add ((x7_2).toNat * 9)).block, (ad403.add ((x7_2).toNat * 9)).off + 4, none⟩ = some (.int .i64 ((rd_T46 l1 x7_2).f2.f2)) ∧ w'.cell? ⟨(ad403.add ((x7_2).toNat * 9)).block, (ad403.add ((x7_2).toNat * 9)).off + 5, none⟩ = some (.int .i64 ((rd_T46 l1 x7_2).f2.f3)) ∧ w'.cell? ⟨(ad403.add ((x7_2).toNat * 9)).block, (ad403.add ((x7_2).toNat * 9)).off + 6, none⟩ = some (.int .i64 ((rd_T46 l1 x7_2).f2.f4)) ∧ w'.cell? ⟨(ad403.add ((x7_2).toNat * 9)).block, (ad403.add ((x7_2).toNat * 9)).off + 7, none⟩ = some (.string ((rd_T46 l1 x7_2).f2.f5)) ∧ w'.cell? ⟨(ad403.add ((x7_2).toNat * 9)).block, (ad403.add ((x7_2).toNat * 9)).off + 8, none⟩ = some (.int .i64 ((rd_T46 l1 x7_2).f2.f6))) (ds := []) (bsq 0 11) (by kernel_rfl) rfl rfl ⟨(blk_cell BK394.out 0).trans rfl, ((HB.out.cell (World.block_lt_of_cell? w _ hw402_0)).trans hw402_0), ((HB.out.cell (World.block_lt_of_cell? w _ hw402_1)).trans hw402_1), ((HB.out.cell (World.block_lt_of_cell? w _ hw402_2)).trans hw402_2), ((HB.out.cell (World.block_lt_of_cell? w _ hw402_3)).trans hw402_3), ((HB.out.cell (World.block_lt_of_cell? w _ hw402_4)).trans hw402_4), ((HB.out.cell (World.block_lt_of_cell? w _ hw402_5)).trans hw402_5), ((HB.out.cell (World.block_lt_of_cell? w _ hw402_6)).trans hw402_6), ((HB.out.cell (World.block_lt_of_cell? w _ hw402_7)).trans hw402_7), ((HB.out.cell (World.block_lt_of_cell? w _ hw402_8)).trans hw402_8), ((HB.out.cell (World.block_lt_of_cell? w _ hw402_9)).trans hw402_9), ((HB.out.cell (World.block_lt_of_cell? w _ hw402_10)).trans hw402_10), ((HB.out.cell (World.block_lt_of_cell? w _ hw402_11)).trans hw402_11), ((HB.out.cell (World.block_lt_of_cell? w _ hw403_0)).trans hw403_0), ((HB.out.cell (World.block_lt_of_cell? w _ hw403_1)).trans hw403_1), ((HB.out.cell (World.block_lt_of_cell? w _ hw403_2)).trans hw403_2), ((HB.out.cell (World.block_lt_of_cell? w _ hw403_3)).trans hw403_3), ((HB.out.cell (World.block_lt_of_cell? w _ hw403_4)).trans hw403_4), ((HB.out.cell (World.block_lt_of_cell? w _ hw403_5)).trans hw403_5), ((HB.out.cell (World.block_lt_of_cell? w _ hw403_6)).trans hw403_6), ((HB.out.cell (World.block_lt_of_cell? w _ hw403_7)).trans hw403_7), ((HB.out.cell (World.block_lt_of_cell? w _ hw403_8)).trans hw403_8)⟩ (fun hHeld => ?_); refine with_tabW signalbenchref47_ends.tab9 signalbenchref47_ends.bits9 (fun HT_ HW_ => ?_)
                      generalize wr.drew = w41 at HO_5 BK394 HB hx402_0 hx402_1 hx402_10 hx402_11 hx402_2 hx402_3 hx402_4 hx402_5 hx402_6 hx402_7 hx402_8 hx402_9 hx403_0 hx403_1 hx403_2 hx403_3 hx403_4 hx403_5 hx403_6 hx403_7 hx403_8 hHeld ⊢
                      refine pu 0 31 (bsq 1 10) ?_
                      refine pu 2 33 (bls [1, 1, 1, 8]) ?_
                      refine pu 6 37 (bls [1, 1, 1, 3, 1, 4]) ?_
                      refine pu 7 38 (bls [1, 1, 1, 3, 2, 3]) ?_
                      refine pu 8 39 (bls [1, 1, 1, 3, 3, 2]) ?_
                      refine tk 1 32 (bls [3, 3, 3, 2]) hHeld ?_ (he := by rintro w' ⟨s0, s1, s2, s3, s4, s5, s6, s7, s8, s9, s10, s11, s12, s13, s14, s15, s16, s17, s18, s19, s20, s21⟩; go_simp; with_reducible rfl)
                      refine pu 3 34 (bls [4, 2, 3, 2]) ?_
                      refine pu 4 35 (bls [5, 1, 3, 2]) ?_
                      refine tk 5 36 (bsq 9 2) hHeld ?_ (he := by rintro w' ⟨s0, s1, s2, s3, s4, s5, s6, s7, s8, s9, s10, s11, s12, s13, s14, s15, s16, s17, s18, s19, s20, s21⟩; go_simp; with_reducible rfl)
                      refine tk 9 40 (bsq 10 1) hHeld ?_ (he := by rintro w' ⟨s0, s1, s2, s3, s4, s5, s6, s7, s8, s9, s10, s11, s12, s13, s14, s15, s16, s17, s18, s19, s20, s21⟩; go_simp; with_reducible rfl)
                      refine one_ (i := 10) (N := some 41) (bsq 11 0) rfl rfl (one_of HT_.out (by kernel_rfl)) (by decide) (fun K hK => ?_)
                      refine goes_ Try.func59 (by kernel_rfl) rfl #[.agg #[.int .i64 ((rd_T50 l0_0 x6_1).f0.f0), .int .i64 ((rd_T50 l0_0 x6_1).f0.f1), .int .i64 ((rd_T50 l0_0 x6_1).f0.f2), .int .i64 ((rd_T50 l0_0 x6_1).f0.f3), .int .i64 ((rd_T50 l0_0 x6_1).f0.f4)], .agg #[.int .i64 ((rd_T46 l1 x7_2).f0), .int .i64 ((rd_T46 l1 x7_2).f1), .int .i64 ((rd_T46 l1 x7_2).f2.f0), .int .i64 ((rd_T46 l1 x7_2).f2.f1), .int .i64 ((rd_T46 l1 x7_2).f2.f2), .int .i64 ((rd_T46 l1 x7_2).f2.f3), .int .i64 ((rd_T46 l1 x7_2).f2.f4), .string ((rd_T46 l1 x7_2).f2.f5), .int .i64 ((rd_T46 l1 x7_2).f2.f6)]] (by rfl) rfl rfl (by (try simp only [List.map_toArray, List.map_cons, List.map_nil]); first | done | rfl | (simp only [List.length_drop, List.length_take]; rfl)) ?_
                      with_reducible refine (signalbenchref47_satisfies.calls k2 ((rd_T50 l0_0 x6_1).f0.f0) ((rd_T50 l0_0 x6_1).f0.f1) ((rd_T50 l0_0 x6_1).f0.f2) ((rd_T50 l0_0 x6_1).f0.f3) ((rd_T50 l0_0 x6_1).f0.f4) ((rd_T46 l1 x7_2).f0) ((rd_T46 l1 x7_2).f1) ((rd_T46 l1 x7_2).f2.f0) ((rd_T46 l1 x7_2).f2.f1) ((rd_T46 l1 x7_2).f2.f2) ((rd_T46 l1 x7_2).f2.f3) ((rd_T46 l1 x7_2).f2.f4) ((rd_T46 l1 x7_2).f2.f5) ((rd_T46 l1 x7_2).f2.f6) true _ A24.out).mono ?_
                      rintro e w42 ⟨rfl, hb⟩
                      refine ⟨_, rfl, ?_⟩
                      have n0_ := Aside0.mk (Kd.S_below (by (with_reducible repeat (first | apply Kd.S_alloc | apply Kd.S_drewN | apply Kd.S_drew)); exact HO_5.out) hb)
                      have n1_ := Aside0.mk (blk_below (bg BK394.out) hb)
                      have n2_ := Aside0.mk (below_step (bs HB.out) hb)
                      clear HO_5
                      clear BK394
                      clear HB
                      have HO_5 := n0_
                      have BK394 := n1_
                      have HB := n2_
                      clear n0_ n1_ n2_
                      (try clear hb)
                      (try clear hb2)
                      (try clear hk)
                      (try clear hi)
                      refine hK.out _ _ ⟨(blk_cell BK394.out 0).trans rfl, ((HB.out.cell (World.block_lt_of_cell? w _ hw402_0)).trans hw402_0), ((HB.out.cell (World.block_lt_of_cell? w _ hw402_1)).trans hw402_1), ((HB.out.cell (World.block_lt_of_cell? w _ hw402_2)).trans hw402_2), ((HB.out.cell (World.block_lt_of_cell? w _ hw402_3)).trans hw402_3), ((HB.out.cell (World.block_lt_of_cell? w _ hw402_4)).trans hw402_4), ((HB.out.cell (World.block_lt_of_cell? w _ hw402_5)).trans hw402_5), ((HB.out.cell (World.block_lt_of_cell? w _ hw402_6)).trans hw402_6), ((HB.out.cell (World.block_lt_of_cell? w _ hw402_7)).trans hw402_7), ((HB.out.cell (World.block_lt_of_cell? w _ hw402_8)).trans hw402_8), ((HB.out.cell (World.block_lt_of_cell? w _ hw402_9)).trans hw402_9), ((HB.out.cell (World.block_lt_of_cell? w _ hw402_10)).trans hw402_10), ((HB.out.cell (World.block_lt_of_cell? w _ hw402_11)).trans hw402_11), ((HB.out.cell (World.block_lt_of_cell? w _ hw403_0)).trans hw403_0), ((HB.out.cell (World.block_lt_of_cell? w _ hw403_1)).trans hw403_1), ((HB.out.cell (World.block_lt_of_cell? w _ hw403_2)).trans hw403_2), ((HB.out.cell (World.block_lt_of_cell? w _ hw403_3)).trans hw403_3), ((HB.out.cell (World.block_lt_of_cell? w _ hw403_4)).trans hw403_4), ((HB.out.cell (World.block_lt_of_cell? w _ hw403_5)).trans hw403_5), ((HB.out.cell (World.block_lt_of_cell? w _ hw403_6)).trans hw403_6), ((HB.out.cell (World.block_lt_of_cell? w _ hw403_7)).trans hw403_7), ((HB.out.cell (World.block_lt_of_cell? w _ hw403_8)).trans hw403_8)⟩ (fun hHeld => ?_)
                      clear hK K
                      refine norm_ (a' := ?_) ?_ ?_
                      rotate_left
                      ·
                       show Act.put _ (some 41) _ = _
                       simp only [Act.put, List.setIfInBounds_toArray, List.set_cons_zero, List.set_cons_succ, i64_w, i32_w]
                       rfl
                      refine done_ (done_of HT_.out (by kernel_rfl)) ?_
                      try go_wp2
                      have n0_ := Aside0.mk (Kd.S_drew HO_5.out)
                      have n1_ := Aside0.mk (blk_drew BK394.out)
                      have n2_ := Aside0.mk (below_drew1 HB.out)
                      clear HO_5
                      clear BK394
                      clear HB
                      have HO_5 := n0_
                      have BK394 := n1_
                      have HB := n2_
                      clear n0_ n1_ n2_
                      have p405 : 0 ≤ (x6_1 : Int) := of_decide_eq_true (by first | (with_reducible assumption) | assumption)
                      have q405 : x6_1 < (x5_2.length : Int) := of_decide_eq_true (by first | (with_reducible assumption) | assumption)
                      obtain ⟨ad405, A405_0, c405_0, e405, hx405_0, hl405_0, hi405_0⟩ := at_L11 (Kd.S_reads' HO_5.out).2.2 x6_1 p405 q405
                      obtain rfl : (⟨go14, 0, none⟩ : Addr) = ad405 := (by injection e405)
                      obtain ⟨ce405, hce405, hMe405, hcc405⟩ := Kd.S_get HO_5.out [] x6_1 p405 (by first | exact q405 | exact of_decide_eq_true (by first | (with_reducible assumption) | assumption) | (have e_ := (Kd.S_reads' HO_5.out).1; omega))
                      obtain ⟨ve405_0, rfl, ge405_0⟩ := hMe405
                      have hv405_0 := hcc405 0 _ rfl
                      rw [Nat.add_zero, show ((Kd.slice 4 Kd.bool)).sz = 1 from rfl, Nat.mul_one] at hv405_0
                      replace hv405_0 := Option.some.inj (hv405_0.symm.trans hx405_0)
                      rw [hv405_0] at ge405_0
                      have HL405_0 := Aside0.mk (show Kd.R Kd.bool 4 _ _ _ _ (rd_L11 x5_2 x6_1) from ge405_0)
                      clear hv405_0 ge405_0
                      have HX405_0 := Aside0.mk hx405_0
                      clear hcc405 hce405
                      (first | simp only [add_plain] at hx405_0 | simp only [add_at] at hx405_0 | simp only [Addr.add, Nat.zero_add] at hx405_0 | skip)
                      have HR405_0 := Aside0.mk hi405_0
                      have HC405_0 := Aside0.mk hl405_0
                      clear hi405_0 hl405_0
                      replace p405 := eq_true p405
                      replace q405 := eq_true q405
                      have p409 : 0 ≤ ((ji35) : Int) := of_decide_eq_true (by first | (with_reducible assumption) | assumption)
                      have q409 : (ji35) < (x5_2.length : Int) := of_decide_eq_true (by first | (with_reducible assumption) | assumption)
                      obtain ⟨ad409, A409_0, c409_0, e409, hx409_0, hl409_0, hi409_0⟩ := at_L11 (Kd.S_reads' HO_5.out).2.2 (ji35) p409 q409
                      obtain rfl : (⟨go14, 0, none⟩ : Addr) = ad409 := (by injection e409)
                      obtain ⟨ce409, hce409, hMe409, hcc409⟩ := Kd.S_get HO_5.out [] (ji35) p409 (by first | exact q409 | exact of_decide_eq_true (by first | (with_reducible assumption) | assumption) | (have e_ := (Kd.S_reads' HO_5.out).1; omega))
                      obtain ⟨ve409_0, rfl, ge409_0⟩ := hMe409
                      have hv409_0 := hcc409 0 _ rfl
                      rw [Nat.add_zero, show ((Kd.slice 4 Kd.bool)).sz = 1 from rfl, Nat.mul_one] at hv409_0
                      replace hv409_0 := Option.some.inj (hv409_0.symm.trans hx409_0)
                      rw [hv409_0] at ge409_0
                      have HL409_0 := Aside0.mk (show Kd.R Kd.bool 4 _ _ _ _ (rd_L11 x5_2 (ji35)) from ge409_0)
                      clear hv409_0 ge409_0
                      have HX409_0 := Aside0.mk hx409_0
                      clear hcc409 hce409
                      (first | simp only [add_plain] at hx409_0 | simp only [add_at] at hx409_0 | simp only [Addr.add, Nat.zero_add] at hx409_0 | skip)
                      have HR409_0 := Aside0.mk hi409_0
                      have HC409_0 := Aside0.mk hl409_0
                      clear hi409_0 hl409_0
                      replace p409 := eq_true p409
                      replace q409 := eq_true q409
                      refine start_ (n := 22) (S := fun w' => w'.cell? ⟨gb394, 0, none⟩ = some (.slice (some ad402) l0_0.length c0_0) ∧ w'.cell? ⟨go14, (x6_1).toNat, none⟩ = some (.slice A405_0 (rd_L11 x5_2 x6_1).length c405_0) ∧ w'.cell? ⟨go14, ((ji35)).toNat, none⟩ = some (.slice A409_0 (rd_L11 x5_2 (ji35)).length c409_0)) (ds := [21]) (bsq 0 22) (by kernel_rfl) rfl rfl ⟨(blk_cell BK394.out 0).trans rfl, hx405_0, hx409_0⟩ (fun hHeld => ?_); refine with_tabW signalbenchref47_ends.tab10 signalbenchref47_ends.bits10 (fun HT_ HW_ => ?_)
                      generalize w42.drew = w43 at HO_5 BK394 HB HL405_0 HL409_0 HR405_0 HR409_0 HX405_0 HX409_0 hx405_0 hx409_0 hHeld ⊢
                      refine pu 0 42 (bsq 1 21) ?_
                      refine pu 1 43 (bsq 2 20) ?_
                      refine pu 2 44 (bsq 3 19) ?_
                      refine pu 4 46 (bls [3, 1, 1, 17]) ?_
                      refine pu 5 47 (bls [3, 1, 2, 16]) ?_
                      refine pu 6 48 (bls [3, 1, 3, 15]) ?_
                      refine pu 7 49 (bls [3, 1, 4, 14]) ?_
                      refine pu 9 51 (bls [3, 1, 4, 1, 1, 12]) ?_
                      refine pu 10 52 (bls [3, 1, 4, 1, 2, 11]) ?_
                      refine pu 11 53 (bls [3, 1, 4, 1, 3, 10]) ?_
                      refine pu 12 54 (bls [3, 1, 4, 1, 4, 9]) ?_
                      refine pu 13 55 (bls [3, 1, 4, 1, 5, 8]) ?_
                      refine pu 15 57 (bls [3, 1, 4, 1, 5, 1, 1, 6]) ?_
                      refine pu 16 58 (bls [3, 1, 4, 1, 5, 1, 2, 5]) ?_
                      refine tk 3 45 (bls [8, 1, 5, 1, 2, 5]) hHeld ?_ (he := by rintro w' ⟨s0, s1, s2⟩; go_simp; with_reducible rfl)
                      refine tk 8 50 (bls [14, 1, 2, 5]) hHeld ?_ (he := by rintro w' ⟨s0, s1, s2⟩; go_simp; with_reducible rfl)
                      refine tk 14 56 (bsq 17 5) hHeld ?_ (he := by rintro w' ⟨s0, s1, s2⟩; go_simp; with_reducible rfl)
                      refine one_ (i := 17) (N := some 59) (bsq 18 4) rfl rfl (one_of HT_.out (by kernel_rfl)) (by decide) (fun K hK => ?_)
                      refine goes_ Try.func65 (by kernel_rfl) rfl #[.agg #[.slice (some ad402) l0_0.length c0_0], .slice (some ad403) l1.length c1, .slice A409_0 (rd_L11 x5_2 (ji35)).length c409_0, .int .i64 x6_1, .int .i64 x7_2] (by rfl) rfl rfl (by (try simp only [List.map_toArray, List.map_cons, List.map_nil]); first | done | (simp only [hji35]; rfl) | rfl | (simp only [List.length_drop, List.length_take]; rfl)) ?_
                      with_reducible refine (signalbenchref47_before.calls k2 _ _ l0_0 _ _ l1 _ _ (rd_L11 x5_2 (ji35)) x6_1 x7_2 t410 _ ?side1 ?side2 ?side3 ?side4 ?side5 ?side6 A38.out).mono ?_
                      (case side1 => repeat (first | exact (Kd.C_below HR0_0.out HB.out) | (with_reducible refine Kd.C_alloc ?_ _) | (with_reducible refine Kd.C_drewN ?_ _) | (with_reducible refine Kd.C_drew ?_)))
                      (case side2 => exact HC0_0.out)
                      (case side3 => repeat (first | exact (Kd.C_below HR1.out HB.out) | (with_reducible refine Kd.C_alloc ?_ _) | (with_reducible refine Kd.C_drewN ?_ _) | (with_reducible refine Kd.C_drew ?_)))
                      (case side4 => exact HC1.out)
                      (case side5 => repeat (first | exact (by repeat (first | (with_reducible exact HR409_0.out) | (with_reducible refine Kd.C_alloc ?_ _) | (with_reducible refine Kd.C_drewN ?_ _) | (with_reducible refine Kd.C_drew ?_) | exact HR409_0.out)) | (with_reducible refine Kd.C_alloc ?_ _) | (with_reducible refine Kd.C_drewN ?_ _) | (with_reducible refine Kd.C_drew ?_)))
                      (case side6 => exact HC409_0.out)
                      rintro e w44 ⟨rfl, hb⟩
                      have HS1_ := (hb.cell (World.block_lt_of_cell? _ _ (hHeld.2.1))).trans (hHeld.2.1)
                      have HS2_ := (hb.cell (World.block_lt_of_cell? _ _ (hHeld.2.2))).trans (hHeld.2.2)
                      refine ⟨_, rfl, ?_⟩
                      have n0_ := Aside0.mk (Kd.S_below (by (with_reducible repeat (first | apply Kd.S_alloc | apply Kd.S_drewN | apply Kd.S_drew)); exact HO_5.out) hb)
                      have n1_ := Aside0.mk (Kd.R_below (by (with_reducible repeat (first | apply Kd.R_alloc | apply Kd.R_drewN | apply Kd.R_drew)); exact HL405_0.out) hb)
                      have n2_ := Aside0.mk (Kd.R_below (by (with_reducible repeat (first | apply Kd.R_alloc | apply Kd.R_drewN | apply Kd.R_drew)); exact HL409_0.out) hb)
                      have n3_ := Aside0.mk (blk_below (bg BK394.out) hb)
                      have n4_ := Aside0.mk (Kd.C_below (by repeat (first | (with_reducible exact HR405_0.out) | (with_reducible refine Kd.C_alloc ?_ _) | (with_reducible refine Kd.C_drewN ?_ _) | (with_reducible refine Kd.C_drew ?_) | exact HR405_0.out)) hb)
                      have n5_ := Aside0.mk (pw_cell_below hb HX405_0.out)
                      have n6_ := Aside0.mk (Kd.C_below (by repeat (first | (with_reducible exact HR409_0.out) | (with_reducible refine Kd.C_alloc ?_ _) | (with_reducible refine Kd.C_drewN ?_ _) | (with_reducible refine Kd.C_drew ?_) | exact HR409_0.out)) hb)
                      have n7_ := Aside0.mk (pw_cell_below hb HX409_0.out)
                      have n8_ := Aside0.mk (below_step (bs HB.out) hb)
                      clear HO_5
                      clear HL405_0
                      clear HL409_0
                      clear BK394
                      clear HR405_0
                      clear HX405_0
                      clear HR409_0
                      clear HX409_0
                      clear HB
                      have HO_5 := n0_
                      have HL405_0 := n1_
                      have HL409_0 := n2_
                      have BK394 := n3_
                      have HR405_0 := n4_
                      have HX405_0 := n5_
                      have HR409_0 := n6_
                      have HX409_0 := n7_
                      have HB := n8_
                      clear n0_ n1_ n2_ n3_ n4_ n5_ n6_ n7_ n8_
                      (try clear hb)
                      (try clear hb2)
                      (try clear hk)
                      (try clear hi)
                      have p40 : 0 ≤ (x7_2 : Int) := of_decide_eq_true (by first | (with_reducible assumption) | assumption)
                      have q40 : (x7_2 : Int) < (((rd_L11 x5_2 x6_1).length : Int) : Int) := of_decide_eq_true (by first | (with_reducible assumption) | assumption)
                      obtain ⟨go40, co40, eo40, gb40, gl40, cl40, HG40⟩ := Kd.R_form HL405_0.out (by omega)
                      (first | cases eo40 | (injection eo40 with ea_ en_ ec_; (first | subst ea_ | (injection ea_ with ea_; subst ea_)); subst ec_; clear en_))
                      have GB40 := Aside0.mk gb40
                      have GG40 := Aside0.mk HG40
                      clear gb40 gl40 HG40
                      obtain ⟨hx40_0, hf40_0⟩ := Kd.R_celln false HL405_0.out (x7_2 : Int) p40 q40
                      replace p40 := eq_true p40
                      replace q40 := eq_true q40
                      have hq45 : (x6_1 : Int) < (x5_2.length : Int) := (by have h_ : (x6_1 : Int) < ((x5_2.length : Int) : Int) := of_decide_eq_true (by first | (with_reducible assumption) | assumption); first | exact h_ | (have e_ := (Kd.S_reads' HO_5.out).1; omega) | simpa only [List.length_set, List.length_set] using h_)
                      obtain ⟨oki45, ce45, hcl45, hM45, hcc45, hok45, hbk45⟩ := Kd.S_borrow HO_5.out [] (x6_1 : Int) (of_decide_eq_true (by first | (with_reducible assumption) | assumption)) hq45
                      obtain ⟨ve45_0, rfl, ge45_0⟩ := hM45
                      have hv45 := hcc45 0 _ rfl
                      rw [Nat.add_zero, show ((Kd.slice 4 Kd.bool)).sz = 1 from rfl, Nat.mul_one] at hv45
                      replace hv45 := Option.some.inj (hv45.symm.trans HX405_0.out)
                      subst hv45
                      clear hcc45 hcl45
                      replace ge45_0 := (show Kd.R Kd.bool 4 _ _ _ _ (rd_L11 x5_2 x6_1) from ge45_0)
                      have HP45 := Kd.R_putg ge45_0 (x7_2 : Int) (decide (t410 ≥ 0))
                      rw [← Ny411.out] at HP45
                      have HS45 := hbk45 HP45.2 (fun k_ e_ => by injection e_ with e_; subst e_; exact ge45_0.1 _ rfl) (x' := y411) (Kd.M_row HP45.1)
                      rw [← Ny413.out] at HS45
                      have HQ45 := Aside0.mk HS45
                      clear HP45 HS45 hbk45 hok45
                      refine hK.out _ _ ⟨(blk_cell BK394.out 0).trans rfl, HS1_, HS2_⟩ (fun hHeld => ?_)
                      clear hK K
                      refine norm_ (a' := ?_) ?_ ?_
                      rotate_left
                      ·
                       show Act.put _ (some 59) _ = _
                       simp only [Act.put, List.setIfInBounds_toArray, List.set_cons_zero, List.set_cons_succ, i64_w, i32_w]
                       rfl
                      refine pu 18 60 (bsq 19 3) ?_
                      refine pu 19 61 (bsq 20 2) ?_
                      refine pu 20 62 (bsq 21 1) ?_
                      refine last_ (i := 21) (N := none) (bsq 22 0) rfl rfl (one_of HT_.out (by kernel_rfl)) (by decide) (fun K hK => ?_)
                      refine skip_ (w1 := ?_) (by rfl) rfl ?_ ?_
                      rotate_left
                      ·
                       go_simp
                       rfl
                      refine hK.out _ _ ?_
                      clear hK K
                      refine done_ (done_of HT_.out (by kernel_rfl)) ?_
                      try go_wp2
                      (try simp only [← hl5_2])
                      go_roundg k2
                      case measure => have := HK1.out; have := HK2.out; omega
                      case rel => exact ⟨(y413), (wrap64 (x7_2 + 1)), (by first | rfl | (simp; done) | (simp [*]; done)), H', ⟨by have := HK1.out; have := HK2.out; omega⟩, ⟨by (try simp only [hl5_2]); (with_reducible repeat (first | apply Kd.S_alloc | apply Kd.S_drewN | apply Kd.S_drew)); exact HQ45.out⟩, ⟨by (try simp only [hl5_2]); (with_reducible repeat (first | refine blk_drewN ?_ _ | refine blk_drew ?_ | refine blk_alloc ?_ _)); refine blk_far ?_ (by have h_ := Kd.R_ne HL405_0.out BK394.out (by decide); intro e_; exact h_ (by rw [e_]; rfl)) _; exact bg BK394.out⟩, ⟨by repeat (first | (with_reducible first | exact HB.out | apply below_alloc | apply pw_below_drewN | apply below_drew1 | refine below_set ?_ GB40.out | refine below_set ?_ GE394.out) | exact HB.out)⟩⟩
                     ·
                      rw [if_neg c39] at H
                      exact absurd H (by simp)
                    ·
                     rw [if_neg c37] at H
                     exact absurd H (by simp)
                   ·
                    rw [if_neg c36] at H
                    exact absurd H (by simp)
                 ·
                  rw [if_neg c26] at H
                  exact absurd H (by simp)
                ·
                 replace c25 := Bool.eq_false_iff.mpr c25
                 subst c25
                 have H1 : (signalbenchref47_ends.l1 k2 l1 x5_2 x6_1 (wrap64 (x7_2 + 1)) l0_0) = some r := by rw [if_neg (show ¬ (false = true) by decide)] at H; exact H
                 clear H
                 have H := H1
                 clear H1
                 have H' := Aside0.mk H
                 clear H
                 try go_wp2
                 have n0_ := Aside0.mk (Kd.S_drew HO_5.out)
                 have n1_ := Aside0.mk (blk_drew BK394.out)
                 have n2_ := Aside0.mk (below_drew1 HB.out)
                 clear HO_5
                 clear BK394
                 clear HB
                 have HO_5 := n0_
                 have BK394 := n1_
                 have HB := n2_
                 clear n0_ n1_ n2_
                 have p402 : 0 ≤ (x6_1 : Int) := of_decide_eq_true (by first | (with_reducible assumption) | assumption)
                 have q402 : x6_1 < (l0_0.length : Int) := of_decide_eq_true (by first | (with_reducible assumption) | assumption)
                 obtain ⟨ad402, e402, hx402_0, hx402_1, hx402_2, hx402_3, hx402_4, hx402_5, hx402_6, hx402_7, hx402_8, hx402_9, hx402_10, hx402_11⟩ := at_T50 HR0_0.out x6_1 p402 q402
                 have hw402_11 := hx402_11
                 have hw402_10 := hx402_10
                 have hw402_9 := hx402_9
                 have hw402_8 := hx402_8
                 have hw402_7 := hx402_7
                 have hw402_6 := hx402_6
                 have hw402_5 := hx402_5
                 have hw402_4 := hx402_4
                 have hw402_3 := hx402_3
                 have hw402_2 := hx402_2
                 have hw402_1 := hx402_1
                 have hw402_0 := hx402_0
                 cases e402
                 replace hx402_0 := pw_cell_below HB.out hx402_0
                 replace hx402_1 := pw_cell_below HB.out hx402_1
                 replace hx402_2 := pw_cell_below HB.out hx402_2
                 replace hx402_3 := pw_cell_below HB.out hx402_3
                 replace hx402_4 := pw_cell_below HB.out hx402_4
                 replace hx402_5 := pw_cell_below HB.out hx402_5
                 replace hx402_6 := pw_cell_below HB.out hx402_6
                 replace hx402_7 := pw_cell_below HB.out hx402_7
                 replace hx402_8 := pw_cell_below HB.out hx402_8
                 replace hx402_9 := pw_cell_below HB.out hx402_9
                 replace hx402_10 := pw_cell_below HB.out hx402_10
                 replace hx402_11 := pw_cell_below HB.out hx402_11
                 replace p402 := eq_true p402
                 replace q402 := eq_true q402
                 have p403 : 0 ≤ (x7_2 : Int) := of_decide_eq_true (by first | (with_reducible assumption) | assumption)
                 have q403 : x7_2 < (l1.length : Int) := of_decide_eq_true (by first | (with_reducible assumption) | assumption)
                 obtain ⟨ad403, e403, hx403_0, hx403_1, hx403_2, hx403_3, hx403_4, hx403_5, hx403_6, hx403_7, hx403_8⟩ := at_T46 HR1.out x7_2 p403 q403
                 have hw403_8 := hx403_8
                 have hw403_7 := hx403_7
                 have hw403_6 := hx403_6
                 have hw403_5 := hx403_5
                 have hw403_4 := hx403_4
                 have hw403_3 := hx403_3
                 have hw403_2 := hx403_2
                 have hw403_1 := hx403_1
                 have hw403_0 := hx403_0
                 cases e403
                 replace hx403_0 := pw_cell_below HB.out hx403_0
                 replace hx403_1 := pw_cell_below HB.out hx403_1
                 replace hx403_2 := pw_cell_below HB.out hx403_2
                 replace hx403_3 := pw_cell_below HB.out hx403_3
                 replace hx403_4 := pw_cell_below HB.out hx403_4
                 replace hx403_5 := pw_cell_below HB.out hx403_5
                 replace hx403_6 := pw_cell_below HB.out hx403_6
                 replace hx403_7 := pw_cell_below HB.out hx403_7
                 replace hx403_8 := pw_cell_below HB.out hx403_8
                 replace p403 := eq_true p403
                 replace q403 := eq_true q403
                 refine start_ (n := 11) (S := fun w' => w'.cell? ⟨gb394, 0, none⟩ = some (.slice (some ad402) l0_0.length c0_0) ∧ w'.cell? (ad402.add ((x6_1).toNat * 12)) = some (.int .i64 ((rd_T50 l0_0 x6_1).f0.f0)) ∧ w'.cell? ⟨(ad402.add ((x6_1).toNat * 12)).block, (ad402.add ((x6_1).toNat * 12)).off + 1, none⟩ = some (.int .i64 ((rd_T50 l0_0 x6_1).f0.f1)) ∧ w'.cell? ⟨(ad402.add ((x6_1).toNat * 12)).block, (ad402.add ((x6_1).toNat * 12)).off + 2, none⟩ = some (.int .i64 ((rd_T50 l0_0 x6_1).f0.f2)) ∧ w'.cell? ⟨(ad402.add ((x6_1).toNat * 12)).block, (ad402.add ((x6_1).toNat * 12)).off + 3, none⟩ = some (.int .i64 ((rd_T50 l0_0 x6_1).f0.f3)) ∧ w'.cell? ⟨(ad402.add ((x6_1).toNat * 12)).block, (ad402.add ((x6_1).toNat * 12)).off + 4, none⟩ = some (.int .i64 ((rd_T50 l0_0 x6_1).f0.f4)) ∧ w'.cell? ⟨(ad402.add ((x6_1).toNat * 12)).block, (ad402.add ((x6_1).toNat * 12)).off + 5, none⟩ = some (.int .i64 ((rd_T50 l0_0 x6_1).f1)) ∧ w'.cell? ⟨(ad402.add ((x6_1).toNat * 12)).block, (ad402.add ((x6_1).toNat * 12)).off + 6, none⟩ = some (.bool ((rd_T50 l0_0 x6_1).f2)) ∧ w'.cell? ⟨(ad402.add ((x6_1).toNat * 12)).block, (ad402.add ((x6_1).toNat * 12)).off + 7, none⟩ = some (.int .i64 ((rd_T50 l0_0 x6_1).f3.f0)) ∧ w'.cell? ⟨(ad402.add ((x6_1).toNat * 12)).block, (ad402.add ((x6_1).toNat * 12)).off + 8, none⟩ = some (.int .i64 ((rd_T50 l0_0 x6_1).f3.f1)) ∧ w'.cell? ⟨(ad402.add ((x6_1).toNat * 12)).block, (ad402.add ((x6_1).toNat * 12)).off + 9, none⟩ = some (.int .i64 ((rd_T50 l0_0 x6_1).f3.f2)) ∧ w'.cell? ⟨(ad402.add ((x6_1).toNat * 12)).block, (ad402.add ((x6_1).toNat * 12)).off + 10, none⟩ = some (.int .i64 ((rd_T50 l0_0 x6_1).f3.f3)) ∧ w'.cell? ⟨(ad402.add ((x6_1).toNat * 12)).block, (ad402.add ((x6_1).toNat * 12)).off + 11, none⟩ = some (.int .i64 ((rd_T50 l0_0 x6_1).f3.f4)) ∧ w'.cell? (ad403.add ((x7_2).toNat * 9)) = some (.int .i64 ((rd_T46 l1 x7_2).f0)) ∧ w'.cell? ⟨(ad403.add ((x7_2).toNat * 9)).block, (ad403.add ((x7_2).toNat * 9)).off + 1, none⟩ = some (.int .i64 ((rd_T46 l1 x7_2).f1)) ∧ w'.cell? ⟨(ad403.add ((x7_2).toNat * 9)).block, (ad403.add ((x7_2).toNat * 9)).off + 2, none⟩ = some (.int .i64 ((rd_T46 l1 x7_2).f2.f0)) ∧ w'.cell? ⟨(ad403.add ((x7_2).toNat * 9)).block, (ad403.add ((x7_2).toNat * 9)).off + 3, none⟩ = some (.int .i64 ((rd_T46 l1 x7_2).f2.f1)) ∧ w'.cell? ⟨(ad403.add ((x7_2).toNat * 9)).block, (ad403.add ((x7_2).toNat * 9)).off + 4, none⟩ = some (.int .i64 ((rd_T46 l1 x7_2).f2.f2)) ∧ w'.cell? ⟨(ad403.add ((x7_2).toNat * 9)).block, (ad403.add ((x7_2).toNat * 9)).off + 5, none⟩ = some (.int .i64 ((rd_T46 l1 x7_2).f2.f3)) ∧ w'.cell? ⟨(ad403.add ((x7_2).toNat * 9)).block, (ad403.add ((x7_2).toNat * 9)).off + 6, none⟩ = some (.int .i64 ((rd_T46 l1 x7_2).f2.f4)) ∧ w'.cell? ⟨(ad403.add ((x7_2).toNat * 9)).block, (ad403.add ((x7_2).toNat * 9)).off + 7, none⟩ = some (.string ((rd_T46 l1 x7_2).f2.f5)) ∧ w'.cell? ⟨(ad403.add ((x7_2).toNat * 9)).block, (ad403.add ((x7_2).toNat * 9)).off + 8, none⟩ = some (.int .i64 ((rd_T46 l1 x7_2).f2.f6))) (ds := []) (bsq 0 11) (by kernel_rfl) rfl rfl ⟨(blk_cell BK394.out 0).trans rfl, ((HB.out.cell (World.block_lt_of_cell? w _ hw402_0)).trans hw402_0), ((HB.out.cell (World.block_lt_of_cell? w _ hw402_1)).trans hw402_1), ((HB.out.cell (World.block_lt_of_cell? w _ hw402_2)).trans hw402_2), ((HB.out.cell (World.block_lt_of_cell? w _ hw402_3)).trans hw402_3), ((HB.out.cell (World.block_lt_of_cell? w _ hw402_4)).trans hw402_4), ((HB.out.cell (World.block_lt_of_cell? w _ hw402_5)).trans hw402_5), ((HB.out.cell (World.block_lt_of_cell? w _ hw402_6)).trans hw402_6), ((HB.out.cell (World.block_lt_of_cell? w _ hw402_7)).trans hw402_7), ((HB.out.cell (World.block_lt_of_cell? w _ hw402_8)).trans hw402_8), ((HB.out.cell (World.block_lt_of_cell? w _ hw402_9)).trans hw402_9), ((HB.out.cell (World.block_lt_of_cell? w _ hw402_10)).trans hw402_10), ((HB.out.cell (World.block_lt_of_cell? w _ hw402_11)).trans hw402_11), ((HB.out.cell (World.block_lt_of_cell? w _ hw403_0)).trans hw403_0), ((HB.out.cell (World.block_lt_of_cell? w _ hw403_1)).trans hw403_1), ((HB.out.cell (World.block_lt_of_cell? w _ hw403_2)).trans hw403_2), ((HB.out.cell (World.block_lt_of_cell? w _ hw403_3)).trans hw403_3), ((HB.out.cell (World.block_lt_of_cell? w _ hw403_4)).trans hw403_4), ((HB.out.cell (World.block_lt_of_cell? w _ hw403_5)).trans hw403_5), ((HB.out.cell (World.block_lt_of_cell? w _ hw403_6)).trans hw403_6), ((HB.out.cell (World.block_lt_of_cell? w _ hw403_7)).trans hw403_7), ((HB.out.cell (World.block_lt_of_cell? w _ hw403_8)).trans hw403_8)⟩ (fun hHeld => ?_); refine with_tabW signalbenchref47_ends.tab9 signalbenchref47_ends.bits9 (fun HT_ HW_ => ?_)
                 generalize wr.drew = w47 at HO_5 BK394 HB hx402_0 hx402_1 hx402_10 hx402_11 hx402_2 hx402_3 hx402_4 hx402_5 hx402_6 hx402_7 hx402_8 hx402_9 hx403_0 hx403_1 hx403_2 hx403_3 hx403_4 hx403_5 hx403_6 hx403_7 hx403_8 hHeld ⊢
                 refine pu 0 31 (bsq 1 10) ?_
                 refine pu 2 33 (bls [1, 1, 1, 8]) ?_
                 refine pu 6 37 (bls [1, 1, 1, 3, 1, 4]) ?_
                 refine pu 7 38 (bls [1, 1, 1, 3, 2, 3]) ?_
                 refine pu 8 39 (bls [1, 1, 1, 3, 3, 2]) ?_
                 refine tk 1 32 (bls [3, 3, 3, 2]) hHeld ?_ (he := by rintro w' ⟨s0, s1, s2, s3, s4, s5, s6, s7, s8, s9, s10, s11, s12, s13, s14, s15, s16, s17, s18, s19, s20, s21⟩; go_simp; with_reducible rfl)
                 refine pu 3 34 (bls [4, 2, 3, 2]) ?_
                 refine pu 4 35 (bls [5, 1, 3, 2]) ?_
                 refine tk 5 36 (bsq 9 2) hHeld ?_ (he := by rintro w' ⟨s0, s1, s2, s3, s4, s5, s6, s7, s8, s9, s10, s11, s12, s13, s14, s15, s16, s17, s18, s19, s20, s21⟩; go_simp; with_reducible rfl)
                 refine tk 9 40 (bsq 10 1) hHeld ?_ (he := by rintro w' ⟨s0, s1, s2, s3, s4, s5, s6, s7, s8, s9, s10, s11, s12, s13, s14, s15, s16, s17, s18, s19, s20, s21⟩; go_simp; with_reducible rfl)
                 refine one_ (i := 10) (N := some 41) (bsq 11 0) rfl rfl (one_of HT_.out (by kernel_rfl)) (by decide) (fun K hK => ?_)
                 refine goes_ Try.func59 (by kernel_rfl) rfl #[.agg #[.int .i64 ((rd_T50 l0_0 x6_1).f0.f0), .int .i64 ((rd_T50 l0_0 x6_1).f0.f1), .int .i64 ((rd_T50 l0_0 x6_1).f0.f2), .int .i64 ((rd_T50 l0_0 x6_1).f0.f3), .int .i64 ((rd_T50 l0_0 x6_1).f0.f4)], .agg #[.int .i64 ((rd_T46 l1 x7_2).f0), .int .i64 ((rd_T46 l1 x7_2).f1), .int .i64 ((rd_T46 l1 x7_2).f2.f0), .int .i64 ((rd_T46 l1 x7_2).f2.f1), .int .i64 ((rd_T46 l1 x7_2).f2.f2), .int .i64 ((rd_T46 l1 x7_2).f2.f3), .int .i64 ((rd_T46 l1 x7_2).f2.f4), .string ((rd_T46 l1 x7_2).f2.f5), .int .i64 ((rd_T46 l1 x7_2).f2.f6)]] (by rfl) rfl rfl (by (try simp only [List.map_toArray, List.map_cons, List.map_nil]); first | done | rfl | (simp only [List.length_drop, List.length_take]; rfl)) ?_
                 with_reducible refine (signalbenchref47_satisfies.calls k2 ((rd_T50 l0_0 x6_1).f0.f0) ((rd_T50 l0_0 x6_1).f0.f1) ((rd_T50 l0_0 x6_1).f0.f2) ((rd_T50 l0_0 x6_1).f0.f3) ((rd_T50 l0_0 x6_1).f0.f4) ((rd_T46 l1 x7_2).f0) ((rd_T46 l1 x7_2).f1) ((rd_T46 l1 x7_2).f2.f0) ((rd_T46 l1 x7_2).f2.f1) ((rd_T46 l1 x7_2).f2.f2) ((rd_T46 l1 x7_2).f2.f3) ((rd_T46 l1 x7_2).f2.f4) ((rd_T46 l1 x7_2).f2.f5) ((rd_T46 l1 x7_2).f2.f6) false _ A24.out).mono ?_
                 rintro e w48 ⟨rfl, hb⟩
                 refine ⟨_, rfl, ?_⟩
                 have n0_ := Aside0.mk (Kd.S_below (by (with_reducible repeat (first | apply Kd.S_alloc | apply Kd.S_drewN | apply Kd.S_drew)); exact HO_5.out) hb)
                 have n1_ := Aside0.mk (blk_below (bg BK394.out) hb)
                 have n2_ := Aside0.mk (below_step (bs HB.out) hb)
                 clear HO_5
                 clear BK394
                 clear HB
                 have HO_5 := n0_
                 have BK394 := n1_
                 have HB := n2_
                 clear n0_ n1_ n2_
                 (try clear hb)
                 (try clear hb2)
                 (try clear hk)
                 (try clear hi)
                 refine hK.out _ _ ⟨(blk_cell BK394.out 0).trans rfl, ((HB.out.cell (World.block_lt_of_cell? w _ hw402_0)).trans hw402_0), ((HB.out.cell (World.block_lt_of_cell? w _ hw402_1)).trans hw402_1), ((HB.out.cell (World.block_lt_of_cell? w _ hw402_2)).trans hw402_2), ((HB.out.cell (World.block_lt_of_cell? w _ hw402_3)).trans hw402_3), ((HB.out.cell (World.block_lt_of_cell? w _ hw402_4)).trans hw402_4), ((HB.out.cell (World.block_lt_of_cell? w _ hw402_5)).trans hw402_5), ((HB.out.cell (World.block_lt_of_cell? w _ hw402_6)).trans hw402_6), ((HB.out.cell (World.block_lt_of_cell? w _ hw402_7)).trans hw402_7), ((HB.out.cell (World.block_lt_of_cell? w _ hw402_8)).trans hw402_8), ((HB.out.cell (World.block_lt_of_cell? w _ hw402_9)).trans hw402_9), ((HB.out.cell (World.block_lt_of_cell? w _ hw402_10)).trans hw402_10), ((HB.out.cell (World.block_lt_of_cell? w _ hw402_11)).trans hw402_11), ((HB.out.cell (World.block_lt_of_cell? w _ hw403_0)).trans hw403_0), ((HB.out.cell (World.block_lt_of_cell? w _ hw403_1)).trans hw403_1), ((HB.out.cell (World.block_lt_of_cell? w _ hw403_2)).trans hw403_2), ((HB.out.cell (World.block_lt_of_cell? w _ hw403_3)).trans hw403_3), ((HB.out.cell (World.block_lt_of_cell? w _ hw403_4)).trans hw403_4), ((HB.out.cell (World.block_lt_of_cell? w _ hw403_5)).trans hw403_5), ((HB.out.cell (World.block_lt_of_cell? w _ hw403_6)).trans hw403_6), ((HB.out.cell (World.block_lt_of_cell? w _ hw403_7)).trans hw403_7), ((HB.out.cell (World.block_lt_of_cell? w _ hw403_8)).trans hw403_8)⟩ (fun hHeld => ?_)
                 clear hK K
                 refine norm_ (a' := ?_) ?_ ?_
                 rotate_left
                 ·
                  show Act.put _ (some 41) _ = _
                  simp only [Act.put, List.setIfInBounds_toArray, List.set_cons_zero, List.set_cons_succ, i64_w, i32_w]
                  rfl
                 refine done_ (done_of HT_.out (by kernel_rfl)) ?_
                 try go_wp2
                 (try simp only [← hl5_2])
                 go_roundg k2
                 case measure => have := HK1.out; have := HK2.out; omega
                 case rel => exact ⟨(x5_2), (wrap64 (x7_2 + 1)), (by first | rfl | (simp; done) | (simp [*]; done)), H', ⟨by have := HK1.out; have := HK2.out; omega⟩, ⟨by (try simp only [hl5_2]); (with_reducible repeat (first | apply Kd.S_alloc | apply Kd.S_drewN | apply Kd.S_drew)); exact HO_5.out⟩, ⟨by (try simp only [hl5_2]); exact bg BK394.out⟩, ⟨bs HB.out⟩⟩
               ·
                rw [if_neg c23] at H
                exact absurd H (by simp)
              ·
               rw [if_neg c22] at H
               exact absurd H (by simp)
             ·
              rw [if_neg c21] at H
              exact absurd H (by simp)
            ·
             rw [if_neg c20] at H
             have c20b0 : decide (x7_2 < (l1.length : Int)) = false := decide_eq_false c20
             clear c20
             have H' := Aside0.mk H
             clear H
             go_wp2
             (try simp only [← hl5_2])
             go_roundg k2
             case measure => have := HK1.out; have := HK2.out; omega
             case rel => exact ⟨(x5_2), (wrap64 (x6_1 + 1)), (by first | rfl | (simp; done) | (simp [*]; done)), H', ⟨by have := HK1.out; have := HK2.out; omega⟩, ⟨by (try simp only [hl5_2]); (with_reducible repeat (first | apply Kd.S_alloc | apply Kd.S_drewN | apply Kd.S_drew)); exact HO_5.out⟩, ⟨by (try simp only [hl5_2]); exact bg BK394.out⟩, ⟨bs HB.out⟩⟩
         ·
          rw [if_neg c13] at H
          exact absurd H (by simp)
        ·
         rw [if_neg c12] at H
         exact absurd H (by simp)
       ·
        rw [if_neg c11] at H
        exact absurd H (by simp)
      ·
       rw [if_neg c10] at H
       exact absurd H (by simp)
     ·
      rw [if_neg c9] at H
      have c9b0 : decide (x6_1 < (l0_0.length : Int)) = false := decide_eq_false c9
      clear c9
      obtain rfl := Option.some.inj H
      have hcz49_0 : wr.cell? ⟨gb394, 0, none⟩ = some (.slice A0_0 l0_0.length c0_0) := (blk_cell BK394.out 0).trans rfl
      have hfz49_0 := blk_frozen BK394.out 0
      go_wp2
      go_ret
      exact ⟨_, by first | rfl | (simp [errW_none, errW_some] <;> rfl) | (simp [*, errW_none, errW_some] <;> rfl), by (with_reducible repeat (first | apply Kd.S_alloc | apply Kd.S_drewN | apply Kd.S_drew)); exact HO_5.out, bs HB.out⟩
  ·
   rw [if_neg c4] at H
   exact absurd H (by simp)
 ·
  rw [if_neg c3] at H
  exact absurd H (by simp)

end Go.Proofs.Ytgdjiphljadlcaa.K
