-- Printed by wip/hprint.py (this project's own driver of the kit's print) out of the translation; Lean checks it.
import Derived.Test.YteifekndhgkgcaaH0
import Derived.Test.YteifekndhgkgcaaH3
namespace Go.Proofs.Yteifekndhgkgcaa.H
open Go.RowKit Go.Proofs.YteifekndhgkgcaaW.PrintWords Go.Proofs.YteifekndhgkgcaaW.PrintLast Go.Proofs.YteifekndhgkgcaaW.PrintMore
attribute [local go_sem] max2_int min2_int max_two min_two max_three min_three max_four min_four   -- for this text's walks alone
set_option linter.unusedVariables false
set_option linter.unusedSimpArgs false

/-! ### signalbenchref46_Same: function 10 -/
mutual
def signalbenchref46_Same.j0 : Nat → Bool → Int → List (S43) → Int → List (S43) → Option (Bool)
 | 0, _, _, _, _, _ => none
 | k + 1, x19, x138000, x138001, x139000, x139001 => if x19 = true then (some false) else (signalbenchref46_Same.l0 k 0 x138000 x138001 x139000 x139001)
def signalbenchref46_Same.l0 : Nat → Int → Int → List (S43) → Int → List (S43) → Option (Bool)
 | 0, _, _, _, _, _ => none
 | k + 1, x5, x138000, x138001, x139000, x139001 => if x5 < (x138001.length : Int) then (if 0 ≤ x5 then (if x5 < (x139001.length : Int) then (if ((rd_T43 x138001 x5).f0) = ((rd_T43 x139001 x5).f0) then (if ((rd_T43 x138001 x5).f1) = ((rd_T43 x139001 x5).f1) then ((signalbenchref46_SameInts.f k ((rd_T43 x138001 x5).f2) ((rd_T43 x139001 x5).f2)).bind fun t145 => (if t145 = true then (signalbenchref46_Same.l0 k (wrap64 (x5 + 1)) x138000 x138001 x139000 x139001) else (some false))) else (some false)) else (some false)) else (none)) else (none)) else (some true)
end
def signalbenchref46_Same.f (k : Nat) (a0_0 : Int) (l0_1 : List (S43)) (a1_0 : Int) (l1_1 : List (S43)) : Option (Bool) := if a0_0 = a1_0 then (signalbenchref46_Same.j0 k ((l0_1.length : Int) != (l1_1.length : Int)) a0_0 l0_1 a1_0 l1_1) else (signalbenchref46_Same.j0 k true a0_0 l0_1 a1_0 l1_1)
def signalbenchref46_Same.T6 : Bool × List (List Nat × List Nat) := (true, [([], []), ([0], [0]), ([], []), ([1, 2], [1, 2]), ([3], [3]), ([4], [4]), ([], []), ([6], [6]), ([], []), ([7, 8], [7, 8]), ([9], [9]), ([10], [10]), ([5, 11], [5, 11]), ([12], [12]), ([13], [13]), ([14, 13], [13, 14]), ([13], [13]), ([15, 16, 13], [13, 15, 16]), ([17, 13], [13, 17]), ([18, 13], [13, 18]), ([13], [13]), ([20, 13], [13, 20]), ([13], [13]), ([21, 22, 13], [13, 21, 22]), ([23, 13], [13, 23]), ([24, 13], [13, 24]), ([19, 25, 13], [13, 19, 25]), ([13, 26], [13, 26]), ([27, 13], [27]), ([28], [28]), ([29, 28], [28, 29]), ([28], [28]), ([30, 31, 28], [28, 30, 31]), ([32, 28], [28, 32]), ([33, 28], [28, 33]), ([28], [28]), ([35, 28], [28, 35]), ([28], [28]), ([36, 37, 28], [28, 36, 37]), ([38, 28], [28, 38]), ([39, 28], [28, 39]), ([34, 40, 28, 28], [28, 34, 40]), ([41, 28], [28, 41]), ([28, 42], [28, 42])])
def signalbenchref46_Same.B6 : List Nat := [0, 1, 0, 7, 15, 31, 0, 64, 0, 448, 960, 1984, 4095, 8191, 16383, 32767, 16383, 131071, 262143, 524287, 16383, 1064959, 16383, 7356415, 15745023, 32522239, 67108863, 134217727, 268435455, 536870911, 1073741823, 536870911, 4294967295, 8589934591, 17179869183, 536870911, 34896609279, 536870911, 241055039487, 515932946431, 1065688760319, 2199023255551, 4398046511103, 8796093022207]
theorem signalbenchref46_Same.tab6 : rtab .any (opsOf Try.f10 6) = signalbenchref46_Same.T6 := by kernel_rfl
theorem signalbenchref46_Same.bits6 : waitsOk signalbenchref46_Same.T6.2 signalbenchref46_Same.B6 = true := by kernel_rfl
set_option maxHeartbeats 8000000 in
set_option maxRecDepth 100000 in
theorem signalbenchref46_Same.calls (k : Nat) (a0_0 : Int) (A0_1 : Option Addr) (c0_1 : Nat) (l0_1 : List (S43)) (a1_0 : Int) (A1_1 : Option Addr) (c1_1 : Nat) (l1_1 : List (S43)) (r : Bool) (w : World) (hr0_1 : Kd.C k43 w A0_1 l0_1.length l0_1) (hc0_1 : l0_1.length ≤ c0_1) (hr1_1 : Kd.C k43 w A1_1 l1_1.length l1_1) (hc1_1 : l1_1.length ≤ c1_1) (h : signalbenchref46_Same.f k a0_0 l0_1 a1_0 l1_1 = some r) :
  Calls Try.prog 10 #[.agg #[.int .i64 a0_0, .slice A0_1 l0_1.length c0_1], .agg #[.int .i64 a1_0, .slice A1_1 l1_1.length c1_1]] w fun e w' => e = .returned (.bool r) ∧ Below w.heap.size w w' := by
 have hu27 := Try.underlying27
 have HR0_1 := Aside0.mk hr0_1
 have HC0_1 := Aside0.mk hc0_1
 clear hr0_1 hc0_1
 have HR1_1 := Aside0.mk hr1_1
 have HC1_1 := Aside0.mk hc1_1
 clear hr1_1 hc1_1
 have HB := Aside0.mk (Below.refl w.heap.size w)
 have H : (if a0_0 = a1_0 then (signalbenchref46_Same.j0 k ((l0_1.length : Int) != (l1_1.length : Int)) a0_0 l0_1 a1_0 l1_1) else (signalbenchref46_Same.j0 k true a0_0 l0_1 a1_0 l1_1)) = some r := h
 clear h
 have HC3 := Aside0.mk H
 clear H
 go_enter Try.func10, Try.ntmps10
 go_upto_region 1 with (first | ((with_reducible refine gate_dst (N := 2) rfl ?_); (try (refine gate_guard (by rfl) ?_; dsimp only)); refine box_event ?hg (N := 2) ?hd (cs := #[.int .i64 a0_0, .slice A0_1 l0_1.length c0_1]) (t := 27) ?hr ?_; (case hd => rfl); (case hg => rfl); (case hr => first | (go_simp; done) | (go_simp; rfl)); intro gb137 hg w4 hbox hb; have n0_ := Aside0.mk (below_step (bs HB.out) hb); have n1_ := Aside0.mk (hbox); have n2_ := Aside0.mk ((by rw [hg]; exact (below_size (bs HB.out)) : w.heap.size ≤ gb137)); have n3_ := n2_; clear HB; have HB := n0_; have BK137 := n1_; have GW137 := n2_; have GE137 := n3_; clear n0_ n1_ n2_ n3_; clear hb hbox hg) | ((with_reducible refine gate_dst (N := 3) rfl ?_); (try (refine gate_guard (by rfl) ?_; dsimp only)); refine box_event ?hg (N := 3) ?hd (cs := #[.int .i64 a1_0, .slice A1_1 l1_1.length c1_1]) (t := 27) ?hr ?_; (case hd => rfl); (case hg => rfl); (case hr => first | (go_simp; done) | (go_simp; rfl)); intro gb138 hg w5 hbox hb; have n0_ := Aside0.mk (blk_below (bg BK137.out) hb); have n1_ := Aside0.mk (below_step (bs HB.out) hb); have n2_ := Aside0.mk (hbox); have n3_ := Aside0.mk ((by rw [hg]; exact (below_size (bs HB.out)) : w.heap.size ≤ gb138)); have n4_ := n3_; have n5_ := Aside0.mk ((by rw [hg]; exact Nat.ne_of_lt (blk_lt (bg BK137.out)) : gb137 ≠ gb138)); have n6_ := Aside0.mk ((by rw [hg]; exact Nat.ne_of_gt (blk_lt (bg BK137.out)) : gb138 ≠ gb137)); clear BK137; clear HB; have BK137 := n0_; have HB := n1_; have BK138 := n2_; have GW138 := n3_; have GE138 := n4_; have NB137_138 := n5_; have NB138_137 := n6_; clear n0_ n1_ n2_ n3_ n4_ n5_ n6_; clear hb hbox hg))
 (try simp only [Act.put, List.setIfInBounds_toArray, List.set_cons_zero, List.set_cons_succ])
 go_cut [19] (fun v19 wc => ∃ (kq : Nat) (x19_2 : Bool), v19 = .bool x19_2 ∧ Aside0 (signalbenchref46_Same.j0 kq x19_2 a0_0 l0_1 a1_0 l1_1 = some r) ∧ Aside0 (kq ≤ k) ∧ Aside0 (wc.heap[gb137]? = some (.cells #[.int .i64 a0_0, (.slice A0_1 l0_1.length c0_1)] 27 (0, 0))) ∧ Aside0 (wc.heap[gb138]? = some (.cells #[.int .i64 a1_0, (.slice A1_1 l1_1.length c1_1)] 27 (0, 0))) ∧ Aside0 (Below w.heap.size w wc))
 case first =>
  have H := HC3.out
  clear HC3
  by_cases c6 : a0_0 = a1_0
  ·
   rw [if_pos c6] at H
   have c6b0 : (a0_0 == a1_0) = true := beq_iff_eq.mpr c6
   have c6b1 : (a0_0 != a1_0) = false := bne_eq_false_iff_eq.mpr c6
   clear c6
   (first | rw [c6b0] | (simp only [i64_w, i32_w]; rw [c6b0]) | skip)
   have H' := Aside0.mk H
   clear H
   have hnb7 := NB137_138.out
   have hnc7 := NB138_137.out
   obtain ⟨hcz8_0, hcz8_1⟩ := bc2 BK137.out
   obtain ⟨hfz8_0, hfz8_1⟩ := bf2 BK137.out
   obtain ⟨hcz9_0, hcz9_1⟩ := bc2 BK138.out
   obtain ⟨hfz9_0, hfz9_1⟩ := bf2 BK138.out
   go_wp2
   go_meet
   case rel => exact ⟨_, (((l0_1.length : Int) != (l1_1.length : Int))), (by first | rfl | (simp; done) | (simp [*]; done)), H', ⟨by first | omega | exact Nat.le_refl _⟩, ⟨bg BK137.out⟩, ⟨bg BK138.out⟩, ⟨bs HB.out⟩⟩
  ·
   rw [if_neg c6] at H
   have c6b0 : (a0_0 == a1_0) = false := beq_eq_false_iff_ne.mpr c6
   have c6b1 : (a0_0 != a1_0) = true := bne_iff_ne.mpr c6
   (first | rw [c6b0] | (simp only [i64_w, i32_w]; rw [c6b0]) | skip)
   have H' := Aside0.mk H
   clear H
   have hnb10 := NB137_138.out
   have hnc10 := NB138_137.out
   obtain ⟨hcz11_0, hcz11_1⟩ := bc2 BK137.out
   obtain ⟨hfz11_0, hfz11_1⟩ := bf2 BK137.out
   obtain ⟨hcz12_0, hcz12_1⟩ := bc2 BK138.out
   obtain ⟨hfz12_0, hfz12_1⟩ := bf2 BK138.out
   go_wp2
   go_meet
   case rel => exact ⟨_, (true), (by first | rfl | (simp; done) | (simp [*]; done)), H', ⟨by first | omega | exact Nat.le_refl _⟩, ⟨bg BK137.out⟩, ⟨bg BK138.out⟩, ⟨bs HB.out⟩⟩
 case rest =>
  clear HC3
  try clear c1
  try clear p2
  try clear c6
  try clear c6b0
  try clear c6b1
  try clear c7
  try clear c10
  try clear hcz11_0 hcz11_1
  try clear hcz12_0 hcz12_1
  try clear hcz8_0 hcz8_1
  try clear hcz9_0 hcz9_1
  try clear hfz11_0 hfz11_1
  try clear hfz12_0 hfz12_1
  try clear hfz8_0 hfz8_1
  try clear hfz9_0 hfz9_1
  obtain ⟨kq, x19_2, rfl, HA, HJ2, BK137, BK138, HB⟩ := hcut
  cases kq with
  | zero => exact absurd HA.out (by simp [signalbenchref46_Same.j0])
  | succ kj2 =>
   have H := HA.out
   clear HA
   simp only [signalbenchref46_Same.j0] at H
   by_cases c13 : x19_2 = true
   ·
    subst c13
    have H1 : (some false) = some r := by rw [if_pos rfl] at H; exact H
    clear H
    have H := H1
    clear H1
    obtain rfl := Option.some.inj H
    go_wp2
    go_ret
    exact ⟨by first | rfl | (simp [errW_none, errW_some] <;> rfl) | (simp [*, errW_none, errW_some] <;> rfl), bs HB.out⟩
   ·
    replace c13 := Bool.eq_false_iff.mpr c13
    subst c13
    have H1 : (signalbenchref46_Same.l0 kj2 0 a0_0 l0_1 a1_0 l1_1) = some r := by rw [if_neg (show ¬ (false = true) by decide)] at H; exact H
    clear H
    have H := H1
    clear H1
    have H' := Aside0.mk H
    clear H
    go_wp2
    go_loopg [5] kj2 (fun kq v5 w' => ∃ (x5_2 : Int), v5 = .int .i64 x5_2 ∧ Aside0 (signalbenchref46_Same.l0 kq x5_2 a0_0 l0_1 a1_0 l1_1 = some r) ∧ Aside0 (kq ≤ kj2) ∧ Aside0 (w'.heap[gb137]? = some (.cells #[.int .i64 a0_0, (.slice A0_1 l0_1.length c0_1)] 27 (0, 0))) ∧ Aside0 (w'.heap[gb138]? = some (.cells #[.int .i64 a1_0, (.slice A1_1 l1_1.length c1_1)] 27 (0, 0))) ∧ Aside0 (Below w.heap.size w w'))
    case atStart => exact ⟨(0), (by first | rfl | (simp; done) | (simp [*]; done)), H', ⟨Nat.le_refl _⟩, ⟨bg BK137.out⟩, ⟨bg BK138.out⟩, ⟨bs HB.out⟩⟩
    case round =>
     clear H'
     try clear c1
     try clear p2
     try clear c6
     try clear c6b0
     try clear c6b1
     try clear c7
     try clear c10
     try clear c13
     try clear hcz11_0 hcz11_1
     try clear hcz12_0 hcz12_1
     try clear hcz8_0 hcz8_1
     try clear hcz9_0 hcz9_1
     try clear hfz11_0 hfz11_1
     try clear hfz12_0 hfz12_1
     try clear hfz8_0 hfz8_1
     try clear hfz9_0 hfz9_1
     try clear p2
     obtain ⟨x5_2, rfl, HA, HK2, BK137, BK138, HB⟩ := hrel
     cases gk with
     | zero => exact absurd HA.out (by simp [signalbenchref46_Same.l0])
     | succ k2 =>
      have H := HA.out
      clear HA
      simp only [signalbenchref46_Same.l0] at H
      by_cases c14 : x5_2 < (l0_1.length : Int)
      ·
       rw [if_pos c14] at H
       have c14b0 : decide (x5_2 < (l0_1.length : Int)) = true := decide_eq_true c14
       clear c14
       by_cases c15 : 0 ≤ x5_2
       ·
        rw [if_pos c15] at H
        have c15b0 : decide (0 ≤ x5_2) = true := decide_eq_true c15
        clear c15
        by_cases c16 : x5_2 < (l1_1.length : Int)
        ·
         rw [if_pos c16] at H
         have c16b0 : decide (x5_2 < (l1_1.length : Int)) = true := decide_eq_true c16
         clear c16
         by_cases c17 : ((rd_T43 l0_1 x5_2).f0) = ((rd_T43 l1_1 x5_2).f0)
         ·
          rw [if_pos c17] at H
          have c17b0 : (((rd_T43 l0_1 x5_2).f0) == ((rd_T43 l1_1 x5_2).f0)) = true := beq_iff_eq.mpr c17
          have c17b1 : (((rd_T43 l0_1 x5_2).f0) != ((rd_T43 l1_1 x5_2).f0)) = false := bne_eq_false_iff_eq.mpr c17
          clear c17
          by_cases c18 : ((rd_T43 l0_1 x5_2).f1) = ((rd_T43 l1_1 x5_2).f1)
          ·
           rw [if_pos c18] at H
           have c18b0 : (((rd_T43 l0_1 x5_2).f1) == ((rd_T43 l1_1 x5_2).f1)) = true := beq_iff_eq.mpr c18
           have c18b1 : (((rd_T43 l0_1 x5_2).f1) != ((rd_T43 l1_1 x5_2).f1)) = false := bne_eq_false_iff_eq.mpr c18
           clear c18
           replace H := Option.bind_eq_some_iff.mp H
           obtain ⟨t145, A190, H⟩ := H
           replace H : (if t145 = true then (signalbenchref46_Same.l0 k2 (wrap64 (x5_2 + 1)) a0_0 l0_1 a1_0 l1_1) else (some false)) = some r := H
           have A19 := Aside0.mk A190
           clear A190
           by_cases c20 : t145 = true
           ·
            subst c20
            have H1 : (signalbenchref46_Same.l0 k2 (wrap64 (x5_2 + 1)) a0_0 l0_1 a1_0 l1_1) = some r := by rw [if_pos rfl] at H; exact H
            clear H
            have H := H1
            clear H1
            have H' := Aside0.mk H
            clear H
            have hnb21 := NB137_138.out
            have hnc21 := NB138_137.out
            obtain ⟨hcz22_0, hcz22_1⟩ := bc2 BK137.out
            obtain ⟨hfz22_0, hfz22_1⟩ := bf2 BK137.out
            try go_wp2
            have n0_ := Aside0.mk (blk_drew BK137.out)
            have n1_ := Aside0.mk (blk_drew BK138.out)
            have n2_ := Aside0.mk (below_drew1 HB.out)
            clear BK137
            clear BK138
            clear HB
            have BK137 := n0_
            have BK138 := n1_
            have HB := n2_
            clear n0_ n1_ n2_
            have p139 : 0 ≤ (x5_2 : Int) := of_decide_eq_true (by first | (with_reducible assumption) | assumption)
            have q139 : x5_2 < (l0_1.length : Int) := of_decide_eq_true (by first | (with_reducible assumption) | assumption)
            obtain ⟨ad139, A139_2, c139_2, e139, hx139_0, hx139_1, hx139_2, hl139_2, hi139_2⟩ := at_T43 HR0_1.out x5_2 p139 q139
            have hw139_2 := hx139_2
            have hw139_1 := hx139_1
            have hw139_0 := hx139_0
            cases e139
            replace hx139_0 := pw_cell_below HB.out hx139_0
            replace hx139_1 := pw_cell_below HB.out hx139_1
            replace hx139_2 := pw_cell_below HB.out hx139_2
            have HR139_2 := Aside0.mk hi139_2
            have HC139_2 := Aside0.mk hl139_2
            clear hi139_2 hl139_2
            replace p139 := eq_true p139
            replace q139 := eq_true q139
            have p140 : 0 ≤ (x5_2 : Int) := of_decide_eq_true (by first | (with_reducible assumption) | assumption)
            have q140 : x5_2 < (l1_1.length : Int) := of_decide_eq_true (by first | (with_reducible assumption) | assumption)
            obtain ⟨ad140, A140_2, c140_2, e140, hx140_0, hx140_1, hx140_2, hl140_2, hi140_2⟩ := at_T43 HR1_1.out x5_2 p140 q140
            have hw140_2 := hx140_2
            have hw140_1 := hx140_1
            have hw140_0 := hx140_0
            cases e140
            replace hx140_0 := pw_cell_below HB.out hx140_0
            replace hx140_1 := pw_cell_below HB.out hx140_1
            replace hx140_2 := pw_cell_below HB.out hx140_2
            have HR140_2 := Aside0.mk hi140_2
            have HC140_2 := Aside0.mk hl140_2
            clear hi140_2 hl140_2
            replace p140 := eq_true p140
            replace q140 := eq_true q140
            have p141 : 0 ≤ (x5_2 : Int) := of_decide_eq_true (by first | (with_reducible assumption) | assumption)
            have q141 : x5_2 < (l0_1.length : Int) := of_decide_eq_true (by first | (with_reducible assumption) | assumption)
            obtain ⟨ad141, A141_2, c141_2, e141, hx141_0, hx141_1, hx141_2, hl141_2, hi141_2⟩ := at_T43 HR0_1.out x5_2 p141 q141
            have hw141_2 := hx141_2
            have hw141_1 := hx141_1
            have hw141_0 := hx141_0
            obtain rfl : ad139 = ad141 := (by injection e141)
            replace hx141_0 := pw_cell_below HB.out hx141_0
            replace hx141_1 := pw_cell_below HB.out hx141_1
            replace hx141_2 := pw_cell_below HB.out hx141_2
            have HR141_2 := Aside0.mk hi141_2
            have HC141_2 := Aside0.mk hl141_2
            clear hi141_2 hl141_2
            replace p141 := eq_true p141
            replace q141 := eq_true q141
            have ea_ := Option.some.inj (hx139_2.symm.trans hx141_2)
            injection ea_ with ea_ en_ ec_
            subst ea_
            subst ec_
            clear en_
            have p142 : 0 ≤ (x5_2 : Int) := of_decide_eq_true (by first | (with_reducible assumption) | assumption)
            have q142 : x5_2 < (l1_1.length : Int) := of_decide_eq_true (by first | (with_reducible assumption) | assumption)
            obtain ⟨ad142, A142_2, c142_2, e142, hx142_0, hx142_1, hx142_2, hl142_2, hi142_2⟩ := at_T43 HR1_1.out x5_2 p142 q142
            have hw142_2 := hx142_2
            have hw142_1 := hx142_1
            have hw142_0 := hx142_0
            obtain rfl : ad140 = ad142 := (by injection e142)
            replace hx142_0 := pw_cell_below HB.out hx142_0
            replace hx142_1 := pw_cell_below HB.out hx142_1
            replace hx142_2 := pw_cell_below HB.out hx142_2
            have HR142_2 := Aside0.mk hi142_2
            have HC142_2 := Aside0.mk hl142_2
            clear hi142_2 hl142_2
            replace p142 := eq_true p142
            replace q142 := eq_true q142
            have ea_ := Option.some.inj (hx140_2.symm.trans hx142_2)
            injection ea_ with ea_ en_ ec_
            subst ea_
            subst ec_
            clear en_
            have p143 : 0 ≤ (x5_2 : Int) := of_decide_eq_true (by first | (with_reducible assumption) | assumption)
            have q143 : x5_2 < (l0_1.length : Int) := of_decide_eq_true (by first | (with_reducible assumption) | assumption)
            obtain ⟨ad143, A143_2, c143_2, e143, hx143_0, hx143_1, hx143_2, hl143_2, hi143_2⟩ := at_T43 HR0_1.out x5_2 p143 q143
            have hw143_2 := hx143_2
            have hw143_1 := hx143_1
            have hw143_0 := hx143_0
            obtain rfl : ad139 = ad143 := (by injection e143)
            replace hx143_0 := pw_cell_below HB.out hx143_0
            replace hx143_1 := pw_cell_below HB.out hx143_1
            replace hx143_2 := pw_cell_below HB.out hx143_2
            have HR143_2 := Aside0.mk hi143_2
            have HC143_2 := Aside0.mk hl143_2
            clear hi143_2 hl143_2
            replace p143 := eq_true p143
            replace q143 := eq_true q143
            have ea_ := Option.some.inj (hx139_2.symm.trans hx143_2)
            injection ea_ with ea_ en_ ec_
            subst ea_
            subst ec_
            clear en_
            have p144 : 0 ≤ (x5_2 : Int) := of_decide_eq_true (by first | (with_reducible assumption) | assumption)
            have q144 : x5_2 < (l1_1.length : Int) := of_decide_eq_true (by first | (with_reducible assumption) | assumption)
            obtain ⟨ad144, A144_2, c144_2, e144, hx144_0, hx144_1, hx144_2, hl144_2, hi144_2⟩ := at_T43 HR1_1.out x5_2 p144 q144
            have hw144_2 := hx144_2
            have hw144_1 := hx144_1
            have hw144_0 := hx144_0
            obtain rfl : ad140 = ad144 := (by injection e144)
            replace hx144_0 := pw_cell_below HB.out hx144_0
            replace hx144_1 := pw_cell_below HB.out hx144_1
            replace hx144_2 := pw_cell_below HB.out hx144_2
            have HR144_2 := Aside0.mk hi144_2
            have HC144_2 := Aside0.mk hl144_2
            clear hi144_2 hl144_2
            replace p144 := eq_true p144
            replace q144 := eq_true q144
            have ea_ := Option.some.inj (hx140_2.symm.trans hx144_2)
            injection ea_ with ea_ en_ ec_
            subst ea_
            subst ec_
            clear en_
            refine start_ (n := 44) (S := fun w' => w'.cell? ⟨gb137, 0, none⟩ = some (.int .i64 a0_0) ∧ w'.cell? ⟨gb137, 1, none⟩ = some (.slice (some ad139) l0_1.length c0_1) ∧ w'.cell? ⟨gb138, 0, none⟩ = some (.int .i64 a1_0) ∧ w'.cell? ⟨gb138, 1, none⟩ = some (.slice (some ad140) l1_1.length c1_1) ∧ w'.cell? (ad139.add ((x5_2).toNat * 3)) = some (.int .i64 ((rd_T43 l0_1 x5_2).f0)) ∧ w'.cell? ⟨(ad139.add ((x5_2).toNat * 3)).block, (ad139.add ((x5_2).toNat * 3)).off + 1, none⟩ = some (.int .i64 ((rd_T43 l0_1 x5_2).f1)) ∧ w'.cell? ⟨(ad139.add ((x5_2).toNat * 3)).block, (ad139.add ((x5_2).toNat * 3)).off + 2, none⟩ = some (.slice A139_2 ((rd_T43 l0_1 x5_2).f2).length c139_2) ∧ w'.cell? (ad140.add ((x5_2).toNat * 3)) = some (.int .i64 ((rd_T43 l1_1 x5_2).f0)) ∧ w'.cell? ⟨(ad140.add ((x5_2).toNat * 3)).block, (ad140.add ((x5_2).toNat * 3)).off + 1, none⟩ = some (.int .i64 ((rd_T43 l1_1 x5_2).f1)) ∧ w'.cell? ⟨(ad140.add ((x5_2).toNat * 3)).block, (ad140.add ((x5_2).toNat * 3)).off + 2, none⟩ = some (.slice A140_2 ((rd_T43 l1_1 x5_2).f2).length c140_2) ∧ w'.cell? (ad139.add ((x5_2).toNat * 3)) = some (.int .i64 ((rd_T43 l0_1 x5_2).f0)) ∧ w'.cell? ⟨(ad139.add ((x5_2).toNat * 3)).block, (ad139.add ((x5_2).toNat * 3)).off + 1, none⟩ = some (.int .i64 ((rd_T43 l0_1 x5_2).f1)) ∧ w'.cell? ⟨(ad139.add ((x5_2).toNat * 3)).block, (ad139.add ((x5_2).toNat * 3)).off + 2, none⟩ = some (.slice A139_2 ((rd_T43 l0_1 x5_2).f2).length c139_2) ∧ w'.cell? (ad140.add ((x5_2).toNat * 3)) = some (.int .i64 ((rd_T43 l1_1 x5_2).f0)) ∧ w'.cell? ⟨(ad140.add ((x5_2).toNat * 3)).block, (ad140.add ((x5_2).toNat * 3)).off + 1, none⟩ = some (.int .i64 ((rd_T43 l1_1 x5_2).f1)) ∧ w'.cell? ⟨(ad140.add ((x5_2).toNat * 3)).block, (ad140.add ((x5_2).toNat * 3)).off + 2, none⟩ = some (.slice A140_2 ((rd_T43 l1_1 x5_2).f2).length c140_2) ∧ w'.cell? (ad139.add ((x5_2).toNat * 3)) = some (.int .i64 ((rd_T43 l0_1 x5_2).f0)) ∧ w'.cell? ⟨(ad139.add ((x5_2).toNat * 3)).block, (ad139.add ((x5_2).toNat * 3)).off + 1, none⟩ = some (.int .i64 ((rd_T43 l0_1 x5_2).f1)) ∧ w'.cell? ⟨(ad139.add ((x5_2).toNat * 3)).block, (ad139.add ((x5_2).toNat * 3)).off + 2, none⟩ = some (.slice A139_2 ((rd_T43 l0_1 x5_2).f2).length c139_2) ∧ w'.cell? (ad140.add ((x5_2).toNat * 3)) = some (.int .i64 ((rd_T43 l1_1 x5_2).f0)) ∧ w'.cell? ⟨(ad140.add ((x5_2).toNat * 3)).block, (ad140.add ((x5_2).toNat * 3)).off + 1, none⟩ = some (.int .i64 ((rd_T43 l1_1 x5_2).f1)) ∧ w'.cell? ⟨(ad140.add ((x5_2).toNat * 3)).block, (ad140.add ((x5_2).toNat * 3)).off + 2, none⟩ = some (.slice A140_2 ((rd_T43 l1_1 x5_2).f2).length c140_2)) (ds := []) (bsq 0 44) (by kernel_rfl) rfl rfl ⟨(blk_cell BK137.out 0).trans rfl, (blk_cell BK137.out 1).trans rfl, (blk_cell BK138.out 0).trans rfl, (blk_cell BK138.out 1).trans rfl, ((HB.out.cell (World.block_lt_of_cell? w _ hw139_0)).trans hw139_0), ((HB.out.cell (World.block_lt_of_cell? w _ hw139_1)).trans hw139_1), ((HB.out.cell (World.block_lt_of_cell? w _ hw139_2)).trans hw139_2), ((HB.out.cell (World.block_lt_of_cell? w _ hw140_0)).trans hw140_0), ((HB.out.cell (World.block_lt_of_cell? w _ hw140_1)).trans hw140_1), ((HB.out.cell (World.block_lt_of_cell? w _ hw140_2)).trans hw140_2), ((HB.out.cell (World.block_lt_of_cell? w _ hw141_0)).trans hw141_0), ((HB.out.cell (World.block_lt_of_cell? w _ hw141_1)).trans hw141_1), ((HB.out.cell (World.block_lt_of_cell? w _ hw141_2)).trans hw141_2), ((HB.out.cell (World.block_lt_of_cell? w _ hw142_0)).trans hw142_0), ((HB.out.cell (World.block_lt_of_cell? w _ hw142_1)).trans hw142_1), ((HB.out.cell (World.block_lt_of_cell? w _ hw142_2)).trans hw142_2), ((HB.out.cell (World.block_lt_of_cell? w _ hw143_0)).trans hw143_0), ((HB.out.cell (World.block_lt_of_cell? w _ hw143_1)).trans hw143_1), ((HB.out.cell (World.block_lt_of_cell? w _ hw143_2)).trans hw143_2), ((HB.out.cell (World.block_lt_of_cell? w _ hw144_0)).trans hw144_0), ((HB.out.cell (World.block_lt_of_cell? w _ hw144_1)).trans hw144_1), ((HB.out.cell (World.block_lt_of_cell? w _ hw144_2)).trans hw144_2)⟩ (fun hHeld => ?_); refine with_tabW signalbenchref46_Same.tab6 signalbenchref46_Same.bits6 (fun HT_ HW_ => ?_)
            generalize wr.drew = w23 at BK137 BK138 HB HR139_2 HR140_2 HR141_2 HR142_2 HR143_2 HR144_2 hx139_0 hx139_1 hx139_2 hx140_0 hx140_1 hx140_2 hx141_0 hx141_1 hx141_2 hx142_0 hx142_1 hx142_2 hx143_0 hx143_1 hx143_2 hx144_0 hx144_1 hx144_2 hHeld ⊢
            refine pu 0 27 (bsq 1 43) ?_
            refine pu 2 29 (bls [1, 1, 1, 41]) ?_
            refine pu 6 33 (bls [1, 1, 1, 3, 1, 37]) ?_
            refine pu 8 35 (bls [1, 1, 1, 3, 1, 1, 1, 35]) ?_
            refine tk 1 28 (bls [3, 3, 1, 1, 1, 35]) hHeld ?_ (he := by rintro w' ⟨s0, s1, s2, s3, s4, s5, s6, s7, s8, s9, s10, s11, s12, s13, s14, s15, s16, s17, s18, s19, s20, s21⟩; go_simp; with_reducible rfl)
            refine pu 3 30 (bls [4, 2, 1, 1, 1, 35]) ?_
            refine pu 4 31 (bls [5, 1, 1, 1, 1, 35]) ?_
            refine tk 5 32 (bls [7, 1, 1, 35]) hHeld ?_ (he := by rintro w' ⟨s0, s1, s2, s3, s4, s5, s6, s7, s8, s9, s10, s11, s12, s13, s14, s15, s16, s17, s18, s19, s20, s21⟩; go_simp; with_reducible rfl)
            refine tk 7 34 (bsq 9 35) hHeld ?_ (he := by rintro w' ⟨s0, s1, s2, s3, s4, s5, s6, s7, s8, s9, s10, s11, s12, s13, s14, s15, s16, s17, s18, s19, s20, s21⟩; go_simp; with_reducible rfl)
            refine pu 9 36 (bsq 10 34) ?_
            refine pu 10 37 (bsq 11 33) ?_
            refine tk 11 38 (bsq 12 32) hHeld ?_ (he := by rintro w' ⟨s0, s1, s2, s3, s4, s5, s6, s7, s8, s9, s10, s11, s12, s13, s14, s15, s16, s17, s18, s19, s20, s21⟩; go_simp; with_reducible rfl)
            refine pu 12 39 (bsq 13 31) ?_
            refine pu 13 40 (bsq 14 30) ?_
            refine pu 14 41 (bsq 15 29) ?_
            refine pu 16 43 (bls [15, 1, 1, 27]) ?_
            refine pu 20 47 (bls [15, 1, 1, 3, 1, 23]) ?_
            refine pu 22 49 (bls [15, 1, 1, 3, 1, 1, 1, 21]) ?_
            refine tk 15 42 (bls [17, 3, 1, 1, 1, 21]) hHeld ?_ (he := by rintro w' ⟨s0, s1, s2, s3, s4, s5, s6, s7, s8, s9, s10, s11, s12, s13, s14, s15, s16, s17, s18, s19, s20, s21⟩; go_simp; with_reducible rfl)
            refine pu 17 44 (bls [18, 2, 1, 1, 1, 21]) ?_
            refine pu 18 45 (bls [19, 1, 1, 1, 1, 21]) ?_
            refine tk 19 46 (bls [21, 1, 1, 21]) hHeld ?_ (he := by rintro w' ⟨s0, s1, s2, s3, s4, s5, s6, s7, s8, s9, s10, s11, s12, s13, s14, s15, s16, s17, s18, s19, s20, s21⟩; go_simp; with_reducible rfl)
            refine tk 21 48 (bsq 23 21) hHeld ?_ (he := by rintro w' ⟨s0, s1, s2, s3, s4, s5, s6, s7, s8, s9, s10, s11, s12, s13, s14, s15, s16, s17, s18, s19, s20, s21⟩; go_simp; with_reducible rfl)
            refine pu 23 50 (bsq 24 20) ?_
            refine pu 24 51 (bsq 25 19) ?_
            refine tk 25 52 (bsq 26 18) hHeld ?_ (he := by rintro w' ⟨s0, s1, s2, s3, s4, s5, s6, s7, s8, s9, s10, s11, s12, s13, s14, s15, s16, s17, s18, s19, s20, s21⟩; go_simp; with_reducible rfl)
            refine pu 26 53 (bsq 27 17) ?_
            refine pu 27 54 (bsq 28 16) ?_
            refine pu 28 55 (bsq 29 15) ?_
            refine pu 29 56 (bsq 30 14) ?_
            refine pu 31 58 (bls [30, 1, 1, 12]) ?_
            refine pu 35 62 (bls [30, 1, 1, 3, 1, 8]) ?_
            refine pu 37 64 (bls [30, 1, 1, 3, 1, 1, 1, 6]) ?_
            refine tk 30 57 (bls [32, 3, 1, 1, 1, 6]) hHeld ?_ (he := by rintro w' ⟨s0, s1, s2, s3, s4, s5, s6, s7, s8, s9, s10, s11, s12, s13, s14, s15, s16, s17, s18, s19, s20, s21⟩; go_simp; with_reducible rfl)
            refine pu 32 59 (bls [33, 2, 1, 1, 1, 6]) ?_
            refine pu 33 60 (bls [34, 1, 1, 1, 1, 6]) ?_
            refine tk 34 61 (bls [36, 1, 1, 6]) hHeld ?_ (he := by rintro w' ⟨s0, s1, s2, s3, s4, s5, s6, s7, s8, s9, s10, s11, s12, s13, s14, s15, s16, s17, s18, s19, s20, s21⟩; go_simp; with_reducible rfl)
            refine tk 36 63 (bsq 38 6) hHeld ?_ (he := by rintro w' ⟨s0, s1, s2, s3, s4, s5, s6, s7, s8, s9, s10, s11, s12, s13, s14, s15, s16, s17, s18, s19, s20, s21⟩; go_simp; with_reducible rfl)
            refine pu 38 65 (bsq 39 5) ?_
            refine pu 39 66 (bsq 40 4) ?_
            refine tk 40 67 (bsq 41 3) hHeld ?_ (he := by rintro w' ⟨s0, s1, s2, s3, s4, s5, s6, s7, s8, s9, s10, s11, s12, s13, s14, s15, s16, s17, s18, s19, s20, s21⟩; go_simp; with_reducible rfl)
            refine one_ (i := 41) (N := some 68) (bsq 42 2) rfl rfl (one_of HT_.out (by kernel_rfl)) (by decide) (fun K hK => ?_)
            refine goes_ Try.func16 (by kernel_rfl) rfl #[.slice A139_2 ((rd_T43 l0_1 x5_2).f2).length c139_2, .slice A140_2 ((rd_T43 l1_1 x5_2).f2).length c140_2] (by rfl) rfl rfl (by (try simp only [List.map_toArray, List.map_cons, List.map_nil]); first | done | rfl | (simp only [List.length_drop, List.length_take]; rfl)) ?_
            with_reducible refine (signalbenchref46_SameInts.calls k2 _ _ ((rd_T43 l0_1 x5_2).f2) _ _ ((rd_T43 l1_1 x5_2).f2) true _ ?side1 ?side2 ?side3 ?side4 A19.out).mono ?_
            (case side1 => repeat (first | exact (Kd.C_below HR143_2.out HB.out) | (with_reducible refine Kd.C_alloc ?_ _) | (with_reducible refine Kd.C_drewN ?_ _) | (with_reducible refine Kd.C_drew ?_)))
            (case side2 => exact HC143_2.out)
            (case side3 => repeat (first | exact (Kd.C_below HR144_2.out HB.out) | (with_reducible refine Kd.C_alloc ?_ _) | (with_reducible refine Kd.C_drewN ?_ _) | (with_reducible refine Kd.C_drew ?_)))
            (case side4 => exact HC144_2.out)
            rintro e w' ⟨rfl, ⟨nd, rfl⟩⟩
            refine ⟨_, rfl, ?_⟩
            refine hK.out _ _ ⟨(blk_cell BK137.out 0).trans rfl, (blk_cell BK137.out 1).trans rfl, (blk_cell BK138.out 0).trans rfl, (blk_cell BK138.out 1).trans rfl, ((HB.out.cell (World.block_lt_of_cell? w _ hw139_0)).trans hw139_0), ((HB.out.cell (World.block_lt_of_cell? w _ hw139_1)).trans hw139_1), ((HB.out.cell (World.block_lt_of_cell? w _ hw139_2)).trans hw139_2), ((HB.out.cell (World.block_lt_of_cell? w _ hw140_0)).trans hw140_0), ((HB.out.cell (World.block_lt_of_cell? w _ hw140_1)).trans hw140_1), ((HB.out.cell (World.block_lt_of_cell? w _ hw140_2)).trans hw140_2), ((HB.out.cell (World.block_lt_of_cell? w _ hw141_0)).trans hw141_0), ((HB.out.cell (World.block_lt_of_cell? w _ hw141_1)).trans hw141_1), ((HB.out.cell (World.block_lt_of_cell? w _ hw141_2)).trans hw141_2), ((HB.out.cell (World.block_lt_of_cell? w _ hw142_0)).trans hw142_0), ((HB.out.cell (World.block_lt_of_cell? w _ hw142_1)).trans hw142_1), ((HB.out.cell (World.block_lt_of_cell? w _ hw142_2)).trans hw142_2), ((HB.out.cell (World.block_lt_of_cell? w _ hw143_0)).trans hw143_0), ((HB.out.cell (World.block_lt_of_cell? w _ hw143_1)).trans hw143_1), ((HB.out.cell (World.block_lt_of_cell? w _ hw143_2)).trans hw143_2), ((HB.out.cell (World.block_lt_of_cell? w _ hw144_0)).trans hw144_0), ((HB.out.cell (World.block_lt_of_cell? w _ hw144_1)).trans hw144_1), ((HB.out.cell (World.block_lt_of_cell? w _ hw144_2)).trans hw144_2)⟩ (fun hHeld => ?_)
            clear hK K
            refine norm_ (a' := ?_) ?_ ?_
            rotate_left
            ·
             show Act.put _ (some 68) _ = _
             simp only [Act.put, List.setIfInBounds_toArray, List.set_cons_zero, List.set_cons_succ, i64_w, i32_w]
             rfl
            refine pu 42 69 (bsq 43 1) ?_
            refine pu 43 70 (bsq 44 0) ?_
            refine done_ (done_of HT_.out (by kernel_rfl)) ?_
            try go_wp2
            go_roundg k2
            case measure => have := HJ2.out; have := HK2.out; omega
            case rel => exact ⟨(wrap64 (x5_2 + 1)), (by first | rfl | (simp; done) | (simp [*]; done)), H', ⟨by have := HJ2.out; have := HK2.out; omega⟩, ⟨bg BK137.out⟩, ⟨bg BK138.out⟩, ⟨bs HB.out⟩⟩
           ·
            replace c20 := Bool.eq_false_iff.mpr c20
            subst c20
            have H1 : (some false) = some r := by rw [if_neg (show ¬ (false = true) by decide)] at H; exact H
            clear H
            have H := H1
            clear H1
            obtain rfl := Option.some.inj H
            have hnb24 := NB137_138.out
            have hnc24 := NB138_137.out
            obtain ⟨hcz25_0, hcz25_1⟩ := bc2 BK137.out
            obtain ⟨hfz25_0, hfz25_1⟩ := bf2 BK137.out
            try go_wp2
            have n0_ := Aside0.mk (blk_drew BK137.out)
            have n1_ := Aside0.mk (blk_drew BK138.out)
            have n2_ := Aside0.mk (below_drew1 HB.out)
            clear BK137
            clear BK138
            clear HB
            have BK137 := n0_
            have BK138 := n1_
            have HB := n2_
            clear n0_ n1_ n2_
            have p139 : 0 ≤ (x5_2 : Int) := of_decide_eq_true (by first | (with_reducible assumption) | assumption)
            have q139 : x5_2 < (l0_1.length : Int) := of_decide_eq_true (by first | (with_reducible assumption) | assumption)
            obtain ⟨ad139, A139_2, c139_2, e139, hx139_0, hx139_1, hx139_2, hl139_2, hi139_2⟩ := at_T43 HR0_1.out x5_2 p139 q139
            have hw139_2 := hx139_2
            have hw139_1 := hx139_1
            have hw139_0 := hx139_0
            cases e139
            replace hx139_0 := pw_cell_below HB.out hx139_0
            replace hx139_1 := pw_cell_below HB.out hx139_1
            replace hx139_2 := pw_cell_below HB.out hx139_2
            have HR139_2 := Aside0.mk hi139_2
            have HC139_2 := Aside0.mk hl139_2
            clear hi139_2 hl139_2
            replace p139 := eq_true p139
            replace q139 := eq_true q139
            have p140 : 0 ≤ (x5_2 : Int) := of_decide_eq_true (by first | (with_reducible assumption) | assumption)
            have q140 : x5_2 < (l1_1.length : Int) := of_decide_eq_true (by first | (with_reducible assumption) | assumption)
            obtain ⟨ad140, A140_2, c140_2, e140, hx140_0, hx140_1, hx140_2, hl140_2, hi140_2⟩ := at_T43 HR1_1.out x5_2 p140 q140
            have hw140_2 := hx140_2
            have hw140_1 := hx140_1
            have hw140_0 := hx140_0
            cases e140
            replace hx140_0 := pw_cell_below HB.out hx140_0
            replace hx140_1 := pw_cell_below HB.out hx140_1
            replace hx140_2 := pw_cell_below HB.out hx140_2
            have HR140_2 := Aside0.mk hi140_2
            have HC140_2 := Aside0.mk hl140_2
            clear hi140_2 hl140_2
            replace p140 := eq_true p140
            replace q140 := eq_true q140
            have p141 : 0 ≤ (x5_2 : Int) := of_decide_eq_true (by first | (with_reducible assumption) | assumption)
            have q141 : x5_2 < (l0_1.length : Int) := of_decide_eq_true (by first | (with_reducible assumption) | assumption)
            obtain ⟨ad141, A141_2, c141_2, e141, hx141_0, hx141_1, hx141_2, hl141_2, hi141_2⟩ := at_T43 HR0_1.out x5_2 p141 q141
            have hw141_2 := hx141_2
            have hw141_1 := hx141_1
            have hw141_0 := hx141_0
            obtain rfl : ad139 = ad141 := (by injection e141)
            replace hx141_0 := pw_cell_below HB.out hx141_0
            replace hx141_1 := pw_cell_below HB.out hx141_1
            replace hx141_2 := pw_cell_below HB.out hx141_2
            have HR141_2 := Aside0.mk hi141_2
            have HC141_2 := Aside0.mk hl141_2
            clear hi141_2 hl141_2
            replace p141 := eq_true p141
            replace q141 := eq_true q141
            have ea_ := Option.some.inj (hx139_2.symm.trans hx141_2)
            injection ea_ with ea_ en_ ec_
            subst ea_
            subst ec_
            clear en_
            have p142 : 0 ≤ (x5_2 : Int) := of_decide_eq_true (by first | (with_reducible assumption) | assumption)
            have q142 : x5_2 < (l1_1.length : Int) := of_decide_eq_true (by first | (with_reducible assumption) | assumption)
            obtain ⟨ad142, A142_2, c142_2, e142, hx142_0, hx142_1, hx142_2, hl142_2, hi142_2⟩ := at_T43 HR1_1.out x5_2 p142 q142
            have hw142_2 := hx142_2
            have hw142_1 := hx142_1
            have hw142_0 := hx142_0
            obtain rfl : ad140 = ad142 := (by injection e142)
            replace hx142_0 := pw_cell_below HB.out hx142_0
            replace hx142_1 := pw_cell_below HB.out hx142_1
            replace hx142_2 := pw_cell_below HB.out hx142_2
            have HR142_2 := Aside0.mk hi142_2
            have HC142_2 := Aside0.mk hl142_2
            clear hi142_2 hl142_2
            replace p142 := eq_true p142
            replace q142 := eq_true q142
            have ea_ := Option.some.inj (hx140_2.symm.trans hx142_2)
            injection ea_ with ea_ en_ ec_
            subst ea_
            subst ec_
            clear en_
            have p143 : 0 ≤ (x5_2 : Int) := of_decide_eq_true (by first | (with_reducible assumption) | assumption)
            have q143 : x5_2 < (l0_1.length : Int) := of_decide_eq_true (by first | (with_reducible assumption) | assumption)
            obtain ⟨ad143, A143_2, c143_2, e143, hx143_0, hx143_1, hx143_2, hl143_2, hi143_2⟩ := at_T43 HR0_1.out x5_2 p143 q143
            have hw143_2 := hx143_2
            have hw143_1 := hx143_1
            have hw143_0 := hx143_0
            obtain rfl : ad139 = ad143 := (by injection e143)
            replace hx143_0 := pw_cell_below HB.out hx143_0
            replace hx143_1 := pw_cell_below HB.out hx143_1
            replace hx143_2 := pw_cell_below HB.out hx143_2
            have HR143_2 := Aside0.mk hi143_2
            have HC143_2 := Aside0.mk hl143_2
            clear hi143_2 hl143_2
            replace p143 := eq_true p143
            replace q143 := eq_true q143
            have ea_ := Option.some.inj (hx139_2.symm.trans hx143_2)
            injection ea_ with ea_ en_ ec_
            subst ea_
            subst ec_
            clear en_
            have p144 : 0 ≤ (x5_2 : Int) := of_decide_eq_true (by first | (with_reducible assumption) | assumption)
            have q144 : x5_2 < (l1_1.length : Int) := of_decide_eq_true (by first | (with_reducible assumption) | assumption)
            obtain ⟨ad144, A144_2, c144_2, e144, hx144_0, hx144_1, hx144_2, hl144_2, hi144_2⟩ := at_T43 HR1_1.out x5_2 p144 q144
            have hw144_2 := hx144_2
            have hw144_1 := hx144_1
            have hw144_0 := hx144_0
            obtain rfl : ad140 = ad144 := (by injection e144)
            replace hx144_0 := pw_cell_below HB.out hx144_0
            replace hx144_1 := pw_cell_below HB.out hx144_1
            replace hx144_2 := pw_cell_below HB.out hx144_2
            have HR144_2 := Aside0.mk hi144_2
            have HC144_2 := Aside0.mk hl144_2
            clear hi144_2 hl144_2
            replace p144 := eq_true p144
            replace q144 := eq_true q144
            have ea_ := Option.some.inj (hx140_2.symm.trans hx144_2)
            injection ea_ with ea_ en_ ec_
            subst ea_
            subst ec_
            clear en_
            refine start_ (n := 44) (S := fun w' => w'.cell? ⟨gb137, 0, none⟩ = some (.int .i64 a0_0) ∧ w'.cell? ⟨gb137, 1, none⟩ = some (.slice (some ad139) l0_1.length c0_1) ∧ w'.cell? ⟨gb138, 0, none⟩ = some (.int .i64 a1_0) ∧ w'.cell? ⟨gb138, 1, none⟩ = some (.slice (some ad140) l1_1.length c1_1) ∧ w'.cell? (ad139.add ((x5_2).toNat * 3)) = some (.int .i64 ((rd_T43 l0_1 x5_2).f0)) ∧ w'.cell? ⟨(ad139.add ((x5_2).toNat * 3)).block, (ad139.add ((x5_2).toNat * 3)).off + 1, none⟩ = some (.int .i64 ((rd_T43 l0_1 x5_2).f1)) ∧ w'.cell? ⟨(ad139.add ((x5_2).toNat * 3)).block, (ad139.add ((x5_2).toNat * 3)).off + 2, none⟩ = some (.slice A139_2 ((rd_T43 l0_1 x5_2).f2).length c139_2) ∧ w'.cell? (ad140.add ((x5_2).toNat * 3)) = some (.int .i64 ((rd_T43 l1_1 x5_2).f0)) ∧ w'.cell? ⟨(ad140.add ((x5_2).toNat * 3)).block, (ad140.add ((x5_2).toNat * 3)).off + 1, none⟩ = some (.int .i64 ((rd_T43 l1_1 x5_2).f1)) ∧ w'.cell? ⟨(ad140.add ((x5_2).toNat * 3)).block, (ad140.add ((x5_2).toNat * 3)).off + 2, none⟩ = some (.slice A140_2 ((rd_T43 l1_1 x5_2).f2).length c140_2) ∧ w'.cell? (ad139.add ((x5_2).toNat * 3)) = some (.int .i64 ((rd_T43 l0_1 x5_2).f0)) ∧ w'.cell? ⟨(ad139.add ((x5_2).toNat * 3)).block, (ad139.add ((x5_2).toNat * 3)).off + 1, none⟩ = some (.int .i64 ((rd_T43 l0_1 x5_2).f1)) ∧ w'.cell? ⟨(ad139.add ((x5_2).toNat * 3)).block, (ad139.add ((x5_2).toNat * 3)).off + 2, none⟩ = some (.slice A139_2 ((rd_T43 l0_1 x5_2).f2).length c139_2) ∧ w'.cell? (ad140.add ((x5_2).toNat * 3)) = some (.int .i64 ((rd_T43 l1_1 x5_2).f0)) ∧ w'.cell? ⟨(ad140.add ((x5_2).toNat * 3)).block, (ad140.add ((x5_2).toNat * 3)).off + 1, none⟩ = some (.int .i64 ((rd_T43 l1_1 x5_2).f1)) ∧ w'.cell? ⟨(ad140.add ((x5_2).toNat * 3)).block, (ad140.add ((x5_2).toNat * 3)).off + 2, none⟩ = some (.slice A140_2 ((rd_T43 l1_1 x5_2).f2).length c140_2) ∧ w'.cell? (ad139.add ((x5_2).toNat * 3)) = some (.int .i64 ((rd_T43 l0_1 x5_2).f0)) ∧ w'.cell? ⟨(ad139.add ((x5_2).toNat * 3)).block, (ad139.add ((x5_2).toNat * 3)).off + 1, none⟩ = some (.int .i64 ((rd_T43 l0_1 x5_2).f1)) ∧ w'.cell? ⟨(ad139.add ((x5_2).toNat * 3)).block, (ad139.add ((x5_2).toNat * 3)).off + 2, none⟩ = some (.slice A139_2 ((rd_T43 l0_1 x5_2).f2).length c139_2) ∧ w'.cell? (ad140.add ((x5_2).toNat * 3)) = some (.int .i64 ((rd_T43 l1_1 x5_2).f0)) ∧ w'.cell? ⟨(ad140.add ((x5_2).toNat * 3)).block, (ad140.add ((x5_2).toNat * 3)).off + 1, none⟩ = some (.int .i64 ((rd_T43 l1_1 x5_2).f1)) ∧ w'.cell? ⟨(ad140.add ((x5_2).toNat * 3)).block, (ad140.add ((x5_2).toNat * 3)).off + 2, none⟩ = some (.slice A140_2 ((rd_T43 l1_1 x5_2).f2).length c140_2)) (ds := []) (bsq 0 44) (by kernel_rfl) rfl rfl ⟨(blk_cell BK137.out 0).trans rfl, (blk_cell BK137.out 1).trans rfl, (blk_cell BK138.out 0).trans rfl, (blk_cell BK138.out 1).trans rfl, ((HB.out.cell (World.block_lt_of_cell? w _ hw139_0)).trans hw139_0), ((HB.out.cell (World.block_lt_of_cell? w _ hw139_1)).trans hw139_1), ((HB.out.cell (World.block_lt_of_cell? w _ hw139_2)).trans hw139_2), ((HB.out.cell (World.block_lt_of_cell? w _ hw140_0)).trans hw140_0), ((HB.out.cell (World.block_lt_of_cell? w _ hw140_1)).trans hw140_1), ((HB.out.cell (World.block_lt_of_cell? w _ hw140_2)).trans hw140_2), ((HB.out.cell (World.block_lt_of_cell? w _ hw141_0)).trans hw141_0), ((HB.out.cell (World.block_lt_of_cell? w _ hw141_1)).trans hw141_1), ((HB.out.cell (World.block_lt_of_cell? w _ hw141_2)).trans hw141_2), ((HB.out.cell (World.block_lt_of_cell? w _ hw142_0)).trans hw142_0), ((HB.out.cell (World.block_lt_of_cell? w _ hw142_1)).trans hw142_1), ((HB.out.cell (World.block_lt_of_cell? w _ hw142_2)).trans hw142_2), ((HB.out.cell (World.block_lt_of_cell? w _ hw143_0)).trans hw143_0), ((HB.out.cell (World.block_lt_of_cell? w _ hw143_1)).trans hw143_1), ((HB.out.cell (World.block_lt_of_cell? w _ hw143_2)).trans hw143_2), ((HB.out.cell (World.block_lt_of_cell? w _ hw144_0)).trans hw144_0), ((HB.out.cell (World.block_lt_of_cell? w _ hw144_1)).trans hw144_1), ((HB.out.cell (World.block_lt_of_cell? w _ hw144_2)).trans hw144_2)⟩ (fun hHeld => ?_); refine with_tabW signalbenchref46_Same.tab6 signalbenchref46_Same.bits6 (fun HT_ HW_ => ?_)
            generalize wr.drew = w26 at BK137 BK138 HB HR139_2 HR140_2 HR141_2 HR142_2 HR143_2 HR144_2 hx139_0 hx139_1 hx139_2 hx140_0 hx140_1 hx140_2 hx141_0 hx141_1 hx141_2 hx142_0 hx142_1 hx142_2 hx143_0 hx143_1 hx143_2 hx144_0 hx144_1 hx144_2 hHeld ⊢
            refine pu 0 27 (bsq 1 43) ?_
            refine pu 2 29 (bls [1, 1, 1, 41]) ?_
            refine pu 6 33 (bls [1, 1, 1, 3, 1, 37]) ?_
            refine pu 8 35 (bls [1, 1, 1, 3, 1, 1, 1, 35]) ?_
            refine tk 1 28 (bls [3, 3, 1, 1, 1, 35]) hHeld ?_ (he := by rintro w' ⟨s0, s1, s2, s3, s4, s5, s6, s7, s8, s9, s10, s11, s12, s13, s14, s15, s16, s17, s18, s19, s20, s21⟩; go_simp; with_reducible rfl)
            refine pu 3 30 (bls [4, 2, 1, 1, 1, 35]) ?_
            refine pu 4 31 (bls [5, 1, 1, 1, 1, 35]) ?_
            refine tk 5 32 (bls [7, 1, 1, 35]) hHeld ?_ (he := by rintro w' ⟨s0, s1, s2, s3, s4, s5, s6, s7, s8, s9, s10, s11, s12, s13, s14, s15, s16, s17, s18, s19, s20, s21⟩; go_simp; with_reducible rfl)
            refine tk 7 34 (bsq 9 35) hHeld ?_ (he := by rintro w' ⟨s0, s1, s2, s3, s4, s5, s6, s7, s8, s9, s10, s11, s12, s13, s14, s15, s16, s17, s18, s19, s20, s21⟩; go_simp; with_reducible rfl)
            refine pu 9 36 (bsq 10 34) ?_
            refine pu 10 37 (bsq 11 33) ?_
            refine tk 11 38 (bsq 12 32) hHeld ?_ (he := by rintro w' ⟨s0, s1, s2, s3, s4, s5, s6, s7, s8, s9, s10, s11, s12, s13, s14, s15, s16, s17, s18, s19, s20, s21⟩; go_simp; with_reducible rfl)
            refine pu 12 39 (bsq 13 31) ?_
            refine pu 13 40 (bsq 14 30) ?_
            refine pu 14 41 (bsq 15 29) ?_
            refine pu 16 43 (bls [15, 1, 1, 27]) ?_
            refine pu 20 47 (bls [15, 1, 1, 3, 1, 23]) ?_
            refine pu 22 49 (bls [15, 1, 1, 3, 1, 1, 1, 21]) ?_
            refine tk 15 42 (bls [17, 3, 1, 1, 1, 21]) hHeld ?_ (he := by rintro w' ⟨s0, s1, s2, s3, s4, s5, s6, s7, s8, s9, s10, s11, s12, s13, s14, s15, s16, s17, s18, s19, s20, s21⟩; go_simp; with_reducible rfl)
            refine pu 17 44 (bls [18, 2, 1, 1, 1, 21]) ?_
            refine pu 18 45 (bls [19, 1, 1, 1, 1, 21]) ?_
            refine tk 19 46 (bls [21, 1, 1, 21]) hHeld ?_ (he := by rintro w' ⟨s0, s1, s2, s3, s4, s5, s6, s7, s8, s9, s10, s11, s12, s13, s14, s15, s16, s17, s18, s19, s20, s21⟩; go_simp; with_reducible rfl)
            refine tk 21 48 (bsq 23 21) hHeld ?_ (he := by rintro w' ⟨s0, s1, s2, s3, s4, s5, s6, s7, s8, s9, s10, s11, s12, s13, s14, s15, s16, s17, s18, s19, s20, s21⟩; go_simp; with_reducible rfl)
            refine pu 23 50 (bsq 24 20) ?_
            refine pu 24 51 (bsq 25 19) ?_
            refine tk 25 52 (bsq 26 18) hHeld ?_ (he := by rintro w' ⟨s0, s1, s2, s3, s4, s5, s6, s7, s8, s9, s10, s11, s12, s13, s14, s15, s16, s17, s18, s19, s20, s21⟩; go_simp; with_reducible rfl)
            refine pu 26 53 (bsq 27 17) ?_
            refine pu 27 54 (bsq 28 16) ?_
            refine pu 28 55 (bsq 29 15) ?_
            refine pu 29 56 (bsq 30 14) ?_
            refine pu 31 58 (bls [30, 1, 1, 12]) ?_
            refine pu 35 62 (bls [30, 1, 1, 3, 1, 8]) ?_
            refine pu 37 64 (bls [30, 1, 1, 3, 1, 1, 1, 6]) ?_
            refine tk 30 57 (bls [32, 3, 1, 1, 1, 6]) hHeld ?_ (he := by rintro w' ⟨s0, s1, s2, s3, s4, s5, s6, s7, s8, s9, s10, s11, s12, s13, s14, s15, s16, s17, s18, s19, s20, s21⟩; go_simp; with_reducible rfl)
            refine pu 32 59 (bls [33, 2, 1, 1, 1, 6]) ?_
            refine pu 33 60 (bls [34, 1, 1, 1, 1, 6]) ?_
            refine tk 34 61 (bls [36, 1, 1, 6]) hHeld ?_ (he := by rintro w' ⟨s0, s1, s2, s3, s4, s5, s6, s7, s8, s9, s10, s11, s12, s13, s14, s15, s16, s17, s18, s19, s20, s21⟩; go_simp; with_reducible rfl)
            refine tk 36 63 (bsq 38 6) hHeld ?_ (he := by rintro w' ⟨s0, s1, s2, s3, s4, s5, s6, s7, s8, s9, s10, s11, s12, s13, s14, s15, s16, s17, s18, s19, s20, s21⟩; go_simp; with_reducible rfl)
            refine pu 38 65 (bsq 39 5) ?_
            refine pu 39 66 (bsq 40 4) ?_
            refine tk 40 67 (bsq 41 3) hHeld ?_ (he := by rintro w' ⟨s0, s1, s2, s3, s4, s5, s6, s7, s8, s9, s10, s11, s12, s13, s14, s15, s16, s17, s18, s19, s20, s21⟩; go_simp; with_reducible rfl)
            refine one_ (i := 41) (N := some 68) (bsq 42 2) rfl rfl (one_of HT_.out (by kernel_rfl)) (by decide) (fun K hK => ?_)
            refine goes_ Try.func16 (by kernel_rfl) rfl #[.slice A139_2 ((rd_T43 l0_1 x5_2).f2).length c139_2, .slice A140_2 ((rd_T43 l1_1 x5_2).f2).length c140_2] (by rfl) rfl rfl (by (try simp only [List.map_toArray, List.map_cons, List.map_nil]); first | done | rfl | (simp only [List.length_drop, List.length_take]; rfl)) ?_
            with_reducible refine (signalbenchref46_SameInts.calls k2 _ _ ((rd_T43 l0_1 x5_2).f2) _ _ ((rd_T43 l1_1 x5_2).f2) false _ ?side1 ?side2 ?side3 ?side4 A19.out).mono ?_
            (case side1 => repeat (first | exact (Kd.C_below HR143_2.out HB.out) | (with_reducible refine Kd.C_alloc ?_ _) | (with_reducible refine Kd.C_drewN ?_ _) | (with_reducible refine Kd.C_drew ?_)))
            (case side2 => exact HC143_2.out)
            (case side3 => repeat (first | exact (Kd.C_below HR144_2.out HB.out) | (with_reducible refine Kd.C_alloc ?_ _) | (with_reducible refine Kd.C_drewN ?_ _) | (with_reducible refine Kd.C_drew ?_)))
            (case side4 => exact HC144_2.out)
            rintro e w' ⟨rfl, ⟨nd, rfl⟩⟩
            refine ⟨_, rfl, ?_⟩
            refine hK.out _ _ ⟨(blk_cell BK137.out 0).trans rfl, (blk_cell BK137.out 1).trans rfl, (blk_cell BK138.out 0).trans rfl, (blk_cell BK138.out 1).trans rfl, ((HB.out.cell (World.block_lt_of_cell? w _ hw139_0)).trans hw139_0), ((HB.out.cell (World.block_lt_of_cell? w _ hw139_1)).trans hw139_1), ((HB.out.cell (World.block_lt_of_cell? w _ hw139_2)).trans hw139_2), ((HB.out.cell (World.block_lt_of_cell? w _ hw140_0)).trans hw140_0), ((HB.out.cell (World.block_lt_of_cell? w _ hw140_1)).trans hw140_1), ((HB.out.cell (World.block_lt_of_cell? w _ hw140_2)).trans hw140_2), ((HB.out.cell (World.block_lt_of_cell? w _ hw141_0)).trans hw141_0), ((HB.out.cell (World.block_lt_of_cell? w _ hw141_1)).trans hw141_1), ((HB.out.cell (World.block_lt_of_cell? w _ hw141_2)).trans hw141_2), ((HB.out.cell (World.block_lt_of_cell? w _ hw142_0)).trans hw142_0), ((HB.out.cell (World.block_lt_of_cell? w _ hw142_1)).trans hw142_1), ((HB.out.cell (World.block_lt_of_cell? w _ hw142_2)).trans hw142_2), ((HB.out.cell (World.block_lt_of_cell? w _ hw143_0)).trans hw143_0), ((HB.out.cell (World.block_lt_of_cell? w _ hw143_1)).trans hw143_1), ((HB.out.cell (World.block_lt_of_cell? w _ hw143_2)).trans hw143_2), ((HB.out.cell (World.block_lt_of_cell? w _ hw144_0)).trans hw144_0), ((HB.out.cell (World.block_lt_of_cell? w _ hw144_1)).trans hw144_1), ((HB.out.cell (World.block_lt_of_cell? w _ hw144_2)).trans hw144_2)⟩ (fun hHeld => ?_)
            clear hK K
            refine norm_ (a' := ?_) ?_ ?_
            rotate_left
            ·
             show Act.put _ (some 68) _ = _
             simp only [Act.put, List.setIfInBounds_toArray, List.set_cons_zero, List.set_cons_succ, i64_w, i32_w]
             rfl
            refine pu 42 69 (bsq 43 1) ?_
            refine pu 43 70 (bsq 44 0) ?_
            refine done_ (done_of HT_.out (by kernel_rfl)) ?_
            try go_wp2
            go_ret
            exact ⟨by first | rfl | (simp [errW_none, errW_some] <;> rfl) | (simp [*, errW_none, errW_some] <;> rfl), bs HB.out⟩
          ·
           rw [if_neg c18] at H
           have c18b0 : (((rd_T43 l0_1 x5_2).f1) == ((rd_T43 l1_1 x5_2).f1)) = false := beq_eq_false_iff_ne.mpr c18
           have c18b1 : (((rd_T43 l0_1 x5_2).f1) != ((rd_T43 l1_1 x5_2).f1)) = true := bne_iff_ne.mpr c18
           obtain rfl := Option.some.inj H
           have hnb27 := NB137_138.out
           have hnc27 := NB138_137.out
           obtain ⟨hcz28_0, hcz28_1⟩ := bc2 BK137.out
           obtain ⟨hfz28_0, hfz28_1⟩ := bf2 BK137.out
           try go_wp2
           have n0_ := Aside0.mk (blk_drew BK137.out)
           have n1_ := Aside0.mk (blk_drew BK138.out)
           have n2_ := Aside0.mk (below_drew1 HB.out)
           clear BK137
           clear BK138
           clear HB
           have BK137 := n0_
           have BK138 := n1_
           have HB := n2_
           clear n0_ n1_ n2_
           have p139 : 0 ≤ (x5_2 : Int) := of_decide_eq_true (by first | (with_reducible assumption) | assumption)
           have q139 : x5_2 < (l0_1.length : Int) := of_decide_eq_true (by first | (with_reducible assumption) | assumption)
           obtain ⟨ad139, A139_2, c139_2, e139, hx139_0, hx139_1, hx139_2, hl139_2, hi139_2⟩ := at_T43 HR0_1.out x5_2 p139 q139
           have hw139_2 := hx139_2
           have hw139_1 := hx139_1
           have hw139_0 := hx139_0
           cases e139
           replace hx139_0 := pw_cell_below HB.out hx139_0
           replace hx139_1 := pw_cell_below HB.out hx139_1
           replace hx139_2 := pw_cell_below HB.out hx139_2
           have HR139_2 := Aside0.mk hi139_2
           have HC139_2 := Aside0.mk hl139_2
           clear hi139_2 hl139_2
           replace p139 := eq_true p139
           replace q139 := eq_true q139
           have p140 : 0 ≤ (x5_2 : Int) := of_decide_eq_true (by first | (with_reducible assumption) | assumption)
           have q140 : x5_2 < (l1_1.length : Int) := of_decide_eq_true (by first | (with_reducible assumption) | assumption)
           obtain ⟨ad140, A140_2, c140_2, e140, hx140_0, hx140_1, hx140_2, hl140_2, hi140_2⟩ := at_T43 HR1_1.out x5_2 p140 q140
           have hw140_2 := hx140_2
           have hw140_1 := hx140_1
           have hw140_0 := hx140_0
           cases e140
           replace hx140_0 := pw_cell_below HB.out hx140_0
           replace hx140_1 := pw_cell_below HB.out hx140_1
           replace hx140_2 := pw_cell_below HB.out hx140_2
           have HR140_2 := Aside0.mk hi140_2
           have HC140_2 := Aside0.mk hl140_2
           clear hi140_2 hl140_2
           replace p140 := eq_true p140
           replace q140 := eq_true q140
           have p141 : 0 ≤ (x5_2 : Int) := of_decide_eq_true (by first | (with_reducible assumption) | assumption)
           have q141 : x5_2 < (l0_1.length : Int) := of_decide_eq_true (by first | (with_reducible assumption) | assumption)
           obtain ⟨ad141, A141_2, c141_2, e141, hx141_0, hx141_1, hx141_2, hl141_2, hi141_2⟩ := at_T43 HR0_1.out x5_2 p141 q141
           have hw141_2 := hx141_2
           have hw141_1 := hx141_1
           have hw141_0 := hx141_0
           obtain rfl : ad139 = ad141 := (by injection e141)
           replace hx141_0 := pw_cell_below HB.out hx141_0
           replace hx141_1 := pw_cell_below HB.out hx141_1
           replace hx141_2 := pw_cell_below HB.out hx141_2
           have HR141_2 := Aside0.mk hi141_2
           have HC141_2 := Aside0.mk hl141_2
           clear hi141_2 hl141_2
           replace p141 := eq_true p141
           replace q141 := eq_true q141
           have ea_ := Option.some.inj (hx139_2.symm.trans hx141_2)
           injection ea_ with ea_ en_ ec_
           subst ea_
           subst ec_
           clear en_
           have p142 : 0 ≤ (x5_2 : Int) := of_decide_eq_true (by first | (with_reducible assumption) | assumption)
           have q142 : x5_2 < (l1_1.length : Int) := of_decide_eq_true (by first | (with_reducible assumption) | assumption)
           obtain ⟨ad142, A142_2, c142_2, e142, hx142_0, hx142_1, hx142_2, hl142_2, hi142_2⟩ := at_T43 HR1_1.out x5_2 p142 q142
           have hw142_2 := hx142_2
           have hw142_1 := hx142_1
           have hw142_0 := hx142_0
           obtain rfl : ad140 = ad142 := (by injection e142)
           replace hx142_0 := pw_cell_below HB.out hx142_0
           replace hx142_1 := pw_cell_below HB.out hx142_1
           replace hx142_2 := pw_cell_below HB.out hx142_2
           have HR142_2 := Aside0.mk hi142_2
           have HC142_2 := Aside0.mk hl142_2
           clear hi142_2 hl142_2
           replace p142 := eq_true p142
           replace q142 := eq_true q142
           have ea_ := Option.some.inj (hx140_2.symm.trans hx142_2)
           injection ea_ with ea_ en_ ec_
           subst ea_
           subst ec_
           clear en_
           refine start_ (n := 44) (S := fun w' => w'.cell? ⟨gb137, 0, none⟩ = some (.int .i64 a0_0) ∧ w'.cell? ⟨gb137, 1, none⟩ = some (.slice (some ad139) l0_1.length c0_1) ∧ w'.cell? ⟨gb138, 0, none⟩ = some (.int .i64 a1_0) ∧ w'.cell? ⟨gb138, 1, none⟩ = some (.slice (some ad140) l1_1.length c1_1) ∧ w'.cell? (ad139.add ((x5_2).toNat * 3)) = some (.int .i64 ((rd_T43 l0_1 x5_2).f0)) ∧ w'.cell? ⟨(ad139.add ((x5_2).toNat * 3)).block, (ad139.add ((x5_2).toNat * 3)).off + 1, none⟩ = some (.int .i64 ((rd_T43 l0_1 x5_2).f1)) ∧ w'.cell? ⟨(ad139.add ((x5_2).toNat * 3)).block, (ad139.add ((x5_2).toNat * 3)).off + 2, none⟩ = some (.slice A139_2 ((rd_T43 l0_1 x5_2).f2).length c139_2) ∧ w'.cell? (ad140.add ((x5_2).toNat * 3)) = some (.int .i64 ((rd_T43 l1_1 x5_2).f0)) ∧ w'.cell? ⟨(ad140.add ((x5_2).toNat * 3)).block, (ad140.add ((x5_2).toNat * 3)).off + 1, none⟩ = some (.int .i64 ((rd_T43 l1_1 x5_2).f1)) ∧ w'.cell? ⟨(ad140.add ((x5_2).toNat * 3)).block, (ad140.add ((x5_2).toNat * 3)).off + 2, none⟩ = some (.slice A140_2 ((rd_T43 l1_1 x5_2).f2).length c140_2) ∧ w'.cell? (ad139.add ((x5_2).toNat * 3)) = some (.int .i64 ((rd_T43 l0_1 x5_2).f0)) ∧ w'.cell? ⟨(ad139.add ((x5_2).toNat * 3)).block, (ad139.add ((x5_2).toNat * 3)).off + 1, none⟩ = some (.int .i64 ((rd_T43 l0_1 x5_2).f1)) ∧ w'.cell? ⟨(ad139.add ((x5_2).toNat * 3)).block, (ad139.add ((x5_2).toNat * 3)).off + 2, none⟩ = some (.slice A139_2 ((rd_T43 l0_1 x5_2).f2).length c139_2) ∧ w'.cell? (ad140.add ((x5_2).toNat * 3)) = some (.int .i64 ((rd_T43 l1_1 x5_2).f0)) ∧ w'.cell? ⟨(ad140.add ((x5_2).toNat * 3)).block, (ad140.add ((x5_2).toNat * 3)).off + 1, none⟩ = some (.int .i64 ((rd_T43 l1_1 x5_2).f1)) ∧ w'.cell? ⟨(ad140.add ((x5_2).toNat * 3)).block, (ad140.add ((x5_2).toNat * 3)).off + 2, none⟩ = some (.slice A140_2 ((rd_T43 l1_1 x5_2).f2).length c140_2)) (ds := []) (bsq 0 44) (by kernel_rfl) rfl rfl ⟨(blk_cell BK137.out 0).trans rfl, (blk_cell BK137.out 1).trans rfl, (blk_cell BK138.out 0).trans rfl, (blk_cell BK138.out 1).trans rfl, ((HB.out.cell (World.block_lt_of_cell? w _ hw139_0)).trans hw139_0), ((HB.out.cell (World.block_lt_of_cell? w _ hw139_1)).trans hw139_1), ((HB.out.cell (World.block_lt_of_cell? w _ hw139_2)).trans hw139_2), ((HB.out.cell (World.block_lt_of_cell? w _ hw140_0)).trans hw140_0), ((HB.out.cell (World.block_lt_of_cell? w _ hw140_1)).trans hw140_1), ((HB.out.cell (World.block_lt_of_cell? w _ hw140_2)).trans hw140_2), ((HB.out.cell (World.block_lt_of_cell? w _ hw141_0)).trans hw141_0), ((HB.out.cell (World.block_lt_of_cell? w _ hw141_1)).trans hw141_1), ((HB.out.cell (World.block_lt_of_cell? w _ hw141_2)).trans hw141_2), ((HB.out.cell (World.block_lt_of_cell? w _ hw142_0)).trans hw142_0), ((HB.out.cell (World.block_lt_of_cell? w _ hw142_1)).trans hw142_1), ((HB.out.cell (World.block_lt_of_cell? w _ hw142_2)).trans hw142_2)⟩ (fun hHeld => ?_); refine with_tabW signalbenchref46_Same.tab6 signalbenchref46_Same.bits6 (fun HT_ HW_ => ?_)
           generalize wr.drew = w29 at BK137 BK138 HB HR139_2 HR140_2 HR141_2 HR142_2 hx139_0 hx139_1 hx139_2 hx140_0 hx140_1 hx140_2 hx141_0 hx141_1 hx141_2 hx142_0 hx142_1 hx142_2 hHeld ⊢
           refine pu 0 27 (bsq 1 43) ?_
           refine pu 2 29 (bls [1, 1, 1, 41]) ?_
           refine pu 6 33 (bls [1, 1, 1, 3, 1, 37]) ?_
           refine pu 8 35 (bls [1, 1, 1, 3, 1, 1, 1, 35]) ?_
           refine tk 1 28 (bls [3, 3, 1, 1, 1, 35]) hHeld ?_ (he := by rintro w' ⟨s0, s1, s2, s3, s4, s5, s6, s7, s8, s9, s10, s11, s12, s13, s14, s15⟩; go_simp; with_reducible rfl)
           refine pu 3 30 (bls [4, 2, 1, 1, 1, 35]) ?_
           refine pu 4 31 (bls [5, 1, 1, 1, 1, 35]) ?_
           refine tk 5 32 (bls [7, 1, 1, 35]) hHeld ?_ (he := by rintro w' ⟨s0, s1, s2, s3, s4, s5, s6, s7, s8, s9, s10, s11, s12, s13, s14, s15⟩; go_simp; with_reducible rfl)
           refine tk 7 34 (bsq 9 35) hHeld ?_ (he := by rintro w' ⟨s0, s1, s2, s3, s4, s5, s6, s7, s8, s9, s10, s11, s12, s13, s14, s15⟩; go_simp; with_reducible rfl)
           refine pu 9 36 (bsq 10 34) ?_
           refine pu 10 37 (bsq 11 33) ?_
           refine tk 11 38 (bsq 12 32) hHeld ?_ (he := by rintro w' ⟨s0, s1, s2, s3, s4, s5, s6, s7, s8, s9, s10, s11, s12, s13, s14, s15⟩; go_simp; with_reducible rfl)
           refine pu 12 39 (bsq 13 31) ?_
           refine pu 13 40 (bsq 14 30) ?_
           refine pu 14 41 (bsq 15 29) ?_
           refine pu 16 43 (bls [15, 1, 1, 27]) ?_
           refine pu 20 47 (bls [15, 1, 1, 3, 1, 23]) ?_
           refine pu 22 49 (bls [15, 1, 1, 3, 1, 1, 1, 21]) ?_
           refine tk 15 42 (bls [17, 3, 1, 1, 1, 21]) hHeld ?_ (he := by rintro w' ⟨s0, s1, s2, s3, s4, s5, s6, s7, s8, s9, s10, s11, s12, s13, s14, s15⟩; go_simp; with_reducible rfl)
           refine pu 17 44 (bls [18, 2, 1, 1, 1, 21]) ?_
           refine pu 18 45 (bls [19, 1, 1, 1, 1, 21]) ?_
           refine tk 19 46 (bls [21, 1, 1, 21]) hHeld ?_ (he := by rintro w' ⟨s0, s1, s2, s3, s4, s5, s6, s7, s8, s9, s10, s11, s12, s13, s14, s15⟩; go_simp; with_reducible rfl)
           refine tk 21 48 (bsq 23 21) hHeld ?_ (he := by rintro w' ⟨s0, s1, s2, s3, s4, s5, s6, s7, s8, s9, s10, s11, s12, s13, s14, s15⟩; go_simp; with_reducible rfl)
           refine pu 23 50 (bsq 24 20) ?_
           refine pu 24 51 (bsq 25 19) ?_
           refine tk 25 52 (bsq 26 18) hHeld ?_ (he := by rintro w' ⟨s0, s1, s2, s3, s4, s5, s6, s7, s8, s9, s10, s11, s12, s13, s14, s15⟩; go_simp; with_reducible rfl)
           refine pu 26 53 (bsq 27 17) ?_
           refine pu 27 54 (bsq 28 16) ?_
           refine pu 28 55 (bsq 29 15) ?_
           refine un 29 56 (bsq 30 14) ?_
           refine un 30 57 (bsq 31 13) ?_
           refine un 31 58 (bsq 32 12) ?_
           refine un 32 59 (bsq 33 11) ?_
           refine un 33 60 (bsq 34 10) ?_
           refine un 34 61 (bsq 35 9) ?_
           refine un 35 62 (bsq 36 8) ?_
           refine un 36 63 (bsq 37 7) ?_
           refine un 37 64 (bsq 38 6) ?_
           refine un 38 65 (bsq 39 5) ?_
           refine un 39 66 (bsq 40 4) ?_
           refine un 40 67 (bsq 41 3) ?_
           refine un 41 68 (bsq 42 2) ?_
           refine un 42 69 (bsq 43 1) ?_
           refine pu 43 70 (bsq 44 0) ?_
           refine done_ (done_of HT_.out (by kernel_rfl)) ?_
           try go_wp2
           go_ret
           exact ⟨by first | rfl | (simp [errW_none, errW_some] <;> rfl) | (simp [*, errW_none, errW_some] <;> rfl), bs HB.out⟩
         ·
          rw [if_neg c17] at H
          have c17b0 : (((rd_T43 l0_1 x5_2).f0) == ((rd_T43 l1_1 x5_2).f0)) = false := beq_eq_false_iff_ne.mpr c17
          have c17b1 : (((rd_T43 l0_1 x5_2).f0) != ((rd_T43 l1_1 x5_2).f0)) = true := bne_iff_ne.mpr c17
          obtain rfl := Option.some.inj H
          have hnb30 := NB137_138.out
          have hnc30 := NB138_137.out
          obtain ⟨hcz31_0, hcz31_1⟩ := bc2 BK137.out
          obtain ⟨hfz31_0, hfz31_1⟩ := bf2 BK137.out
          try go_wp2
          have n0_ := Aside0.mk (blk_drew BK137.out)
          have n1_ := Aside0.mk (blk_drew BK138.out)
          have n2_ := Aside0.mk (below_drew1 HB.out)
          clear BK137
          clear BK138
          clear HB
          have BK137 := n0_
          have BK138 := n1_
          have HB := n2_
          clear n0_ n1_ n2_
          have p139 : 0 ≤ (x5_2 : Int) := of_decide_eq_true (by first | (with_reducible assumption) | assumption)
          have q139 : x5_2 < (l0_1.length : Int) := of_decide_eq_true (by first | (with_reducible assumption) | assumption)
          obtain ⟨ad139, A139_2, c139_2, e139, hx139_0, hx139_1, hx139_2, hl139_2, hi139_2⟩ := at_T43 HR0_1.out x5_2 p139 q139
          have hw139_2 := hx139_2
          have hw139_1 := hx139_1
          have hw139_0 := hx139_0
          cases e139
          replace hx139_0 := pw_cell_below HB.out hx139_0
          replace hx139_1 := pw_cell_below HB.out hx139_1
          replace hx139_2 := pw_cell_below HB.out hx139_2
          have HR139_2 := Aside0.mk hi139_2
          have HC139_2 := Aside0.mk hl139_2
          clear hi139_2 hl139_2
          replace p139 := eq_true p139
          replace q139 := eq_true q139
          have p140 : 0 ≤ (x5_2 : Int) := of_decide_eq_true (by first | (with_reducible assumption) | assumption)
          have q140 : x5_2 < (l1_1.length : Int) := of_decide_eq_true (by first | (with_reducible assumption) | assumption)
          obtain ⟨ad140, A140_2, c140_2, e140, hx140_0, hx140_1, hx140_2, hl140_2, hi140_2⟩ := at_T43 HR1_1.out x5_2 p140 q140
          have hw140_2 := hx140_2
          have hw140_1 := hx140_1
          have hw140_0 := hx140_0
          cases e140
          replace hx140_0 := pw_cell_below HB.out hx140_0
          replace hx140_1 := pw_cell_below HB.out hx140_1
          replace hx140_2 := pw_cell_below HB.out hx140_2
          have HR140_2 := Aside0.mk hi140_2
          have HC140_2 := Aside0.mk hl140_2
          clear hi140_2 hl140_2
          replace p140 := eq_true p140
          replace q140 := eq_true q140
          refine start_ (n := 44) (S := fun w' => w'.cell? ⟨gb137, 0, none⟩ = some (.int .i64 a0_0) ∧ w'.cell? ⟨gb137, 1, none⟩ = some (.slice (some ad139) l0_1.length c0_1) ∧ w'.cell? ⟨gb138, 0, none⟩ = some (.int .i64 a1_0) ∧ w'.cell? ⟨gb138, 1, none⟩ = some (.slice (some ad140) l1_1.length c1_1) ∧ w'.cell? (ad139.add ((x5_2).toNat * 3)) = some (.int .i64 ((rd_T43 l0_1 x5_2).f0)) ∧ w'.cell? ⟨(ad139.add ((x5_2).toNat * 3)).block, (ad139.add ((x5_2).toNat * 3)).off + 1, none⟩ = some (.int .i64 ((rd_T43 l0_1 x5_2).f1)) ∧ w'.cell? ⟨(ad139.add ((x5_2).toNat * 3)).block, (ad139.add ((x5_2).toNat * 3)).off + 2, none⟩ = some (.slice A139_2 ((rd_T43 l0_1 x5_2).f2).length c139_2) ∧ w'.cell? (ad140.add ((x5_2).toNat * 3)) = some (.int .i64 ((rd_T43 l1_1 x5_2).f0)) ∧ w'.cell? ⟨(ad140.add ((x5_2).toNat * 3)).block, (ad140.add ((x5_2).toNat * 3)).off + 1, none⟩ = some (.int .i64 ((rd_T43 l1_1 x5_2).f1)) ∧ w'.cell? ⟨(ad140.add ((x5_2).toNat * 3)).block, (ad140.add ((x5_2).toNat * 3)).off + 2, none⟩ = some (.slice A140_2 ((rd_T43 l1_1 x5_2).f2).length c140_2)) (ds := []) (bsq 0 44) (by kernel_rfl) rfl rfl ⟨(blk_cell BK137.out 0).trans rfl, (blk_cell BK137.out 1).trans rfl, (blk_cell BK138.out 0).trans rfl, (blk_cell BK138.out 1).trans rfl, ((HB.out.cell (World.block_lt_of_cell? w _ hw139_0)).trans hw139_0), ((HB.out.cell (World.block_lt_of_cell? w _ hw139_1)).trans hw139_1), ((HB.out.cell (World.block_lt_of_cell? w _ hw139_2)).trans hw139_2), ((HB.out.cell (World.block_lt_of_cell? w _ hw140_0)).trans hw140_0), ((HB.out.cell (World.block_lt_of_cell? w _ hw140_1)).trans hw140_1), ((HB.out.cell (World.block_lt_of_cell? w _ hw140_2)).trans hw140_2)⟩ (fun hHeld => ?_); refine with_tabW signalbenchref46_Same.tab6 signalbenchref46_Same.bits6 (fun HT_ HW_ => ?_)
          generalize wr.drew = w32 at BK137 BK138 HB HR139_2 HR140_2 hx139_0 hx139_1 hx139_2 hx140_0 hx140_1 hx140_2 hHeld ⊢
          refine pu 0 27 (bsq 1 43) ?_
          refine pu 2 29 (bls [1, 1, 1, 41]) ?_
          refine pu 6 33 (bls [1, 1, 1, 3, 1, 37]) ?_
          refine pu 8 35 (bls [1, 1, 1, 3, 1, 1, 1, 35]) ?_
          refine tk 1 28 (bls [3, 3, 1, 1, 1, 35]) hHeld ?_ (he := by rintro w' ⟨s0, s1, s2, s3, s4, s5, s6, s7, s8, s9⟩; go_simp; with_reducible rfl)
          refine pu 3 30 (bls [4, 2, 1, 1, 1, 35]) ?_
          refine pu 4 31 (bls [5, 1, 1, 1, 1, 35]) ?_
          refine tk 5 32 (bls [7, 1, 1, 35]) hHeld ?_ (he := by rintro w' ⟨s0, s1, s2, s3, s4, s5, s6, s7, s8, s9⟩; go_simp; with_reducible rfl)
          refine tk 7 34 (bsq 9 35) hHeld ?_ (he := by rintro w' ⟨s0, s1, s2, s3, s4, s5, s6, s7, s8, s9⟩; go_simp; with_reducible rfl)
          refine pu 9 36 (bsq 10 34) ?_
          refine pu 10 37 (bsq 11 33) ?_
          refine tk 11 38 (bsq 12 32) hHeld ?_ (he := by rintro w' ⟨s0, s1, s2, s3, s4, s5, s6, s7, s8, s9⟩; go_simp; with_reducible rfl)
          refine pu 12 39 (bsq 13 31) ?_
          refine pu 13 40 (bsq 14 30) ?_
          refine un 14 41 (bsq 15 29) ?_
          refine un 15 42 (bsq 16 28) ?_
          refine un 16 43 (bsq 17 27) ?_
          refine un 17 44 (bsq 18 26) ?_
          refine un 18 45 (bsq 19 25) ?_
          refine un 19 46 (bsq 20 24) ?_
          refine un 20 47 (bsq 21 23) ?_
          refine un 21 48 (bsq 22 22) ?_
          refine un 22 49 (bsq 23 21) ?_
          refine un 23 50 (bsq 24 20) ?_
          refine un 24 51 (bsq 25 19) ?_
          refine un 25 52 (bsq 26 18) ?_
          refine un 26 53 (bsq 27 17) ?_
          refine pu 27 54 (bsq 28 16) ?_
          refine pu 28 55 (bsq 29 15) ?_
          refine un 29 56 (bsq 30 14) ?_
          refine un 30 57 (bsq 31 13) ?_
          refine un 31 58 (bsq 32 12) ?_
          refine un 32 59 (bsq 33 11) ?_
          refine un 33 60 (bsq 34 10) ?_
          refine un 34 61 (bsq 35 9) ?_
          refine un 35 62 (bsq 36 8) ?_
          refine un 36 63 (bsq 37 7) ?_
          refine un 37 64 (bsq 38 6) ?_
          refine un 38 65 (bsq 39 5) ?_
          refine un 39 66 (bsq 40 4) ?_
          refine un 40 67 (bsq 41 3) ?_
          refine un 41 68 (bsq 42 2) ?_
          refine un 42 69 (bsq 43 1) ?_
          refine pu 43 70 (bsq 44 0) ?_
          refine done_ (done_of HT_.out (by kernel_rfl)) ?_
          try go_wp2
          go_ret
          exact ⟨by first | rfl | (simp [errW_none, errW_some] <;> rfl) | (simp [*, errW_none, errW_some] <;> rfl), bs HB.out⟩
        ·
         rw [if_neg c16] at H
         exact absurd H (by simp)
       ·
        rw [if_neg c15] at H
        exact absurd H (by simp)
      ·
       rw [if_neg c14] at H
       have c14b0 : decide (x5_2 < (l0_1.length : Int)) = false := decide_eq_false c14
       clear c14
       obtain rfl := Option.some.inj H
       have hnb33 := NB137_138.out
       have hnc33 := NB138_137.out
       obtain ⟨hcz34_0, hcz34_1⟩ := bc2 BK137.out
       obtain ⟨hfz34_0, hfz34_1⟩ := bf2 BK137.out
       go_wp2
       go_ret
       exact ⟨by first | rfl | (simp [errW_none, errW_some] <;> rfl) | (simp [*, errW_none, errW_some] <;> rfl), bs HB.out⟩

end Go.Proofs.Yteifekndhgkgcaa.H
